import PyProof.Rows.All
import HandS.ForMost
import HandS.Exc
import HandS.WordsExc
import HandS.ExcOwn
import HandS.CallSlots
import KE.GoesNew
import KE.GoesEnum
import HandS.Iter
import HandS.Zip
import HandS.Deep
import HandS.TupAny
import HandS.Conv
import HandS.Style
import HandS.SortInts
import HandS.DictComp
import KE.KDictDisplayH
import HandS.HotCalls
import HandS.ExcIs
import HandS.Comp
import HandS.TupSets
import HandS.SetFor
import HandS.Star
import PyProof.ReprRoads
import HandS.Ends
import HandS.Wide
import HandS.Strs
import HandS.More
import HandS.WordsDict
import PySem.Challenge.RW_namelessnets_k50_whole_messages_on_rings
import OpenK.AllK
set_option Elab.async false
set_option linter.all false
set_option maxRecDepth 100000
set_option maxHeartbeats 4000000
/-! DL1: data as a whole over the hand layer: what stands for which data, the state as data, what a reading does. -/
namespace DL
open PySem PySem.Spec L2
open PyProof.Rows hiding St

abbrev D := PyData

def keyD : Key → D
  | .inl i => .int i
  | .inr x => .str x
def keyTD (k : List Key) : D := .tuple (k.map keyD)
mutual
/-- the value v stands for the data d in the shared part B of the heap -/
inductive Rp (K : PySem.W.Frag) (B : Hp) : V → D → Prop
  | non : Rp K B .non .none
  | bl (b : Bool) : Rp K B (.bl b) (.bool b)
  | int (i : Int) : Rp K B (.int i) (.int i)
  | str (x : Str) : Rp K B (.str x) (.str x)
  | tup {a : Addr} {vs : List V} {ds : List D} : B a = some (.tup vs) → Rps K B vs ds → Rp K B (.ref a) (.tuple ds)
  | lst {a : Addr} {vs : List V} {ds : List D} : B a = some (.lst vs) → Rps K B vs ds → Rp K B (.ref a) (.list ds)
  | dT {a : Addr} {ks : List (List Key × V)} {ds : List (List Key × D)} {kvs : List (D × D)} : B a = some (.dT ks) → RpsT K B ks ds → kvs = ds.map (fun p => (keyTD p.1, p.2)) → Rp K B (.ref a) (.dict kvs)
  | dK {a : Addr} {ks : List (Key × V)} {ds : List (Key × D)} {kvs : List (D × D)} : B a = some (.dK ks) → RpsK K B ks ds → kvs = ds.map (fun p => (keyD p.1, p.2)) → Rp K B (.ref a) (.dict kvs)
inductive Rps (K : PySem.W.Frag) (B : Hp) : List V → List D → Prop
  | nil : Rps K B [] []
  | cons {v : V} {vs : List V} {d : D} {ds : List D} : Rp K B v d → Rps K B vs ds → Rps K B (v :: vs) (d :: ds)
inductive RpsT (K : PySem.W.Frag) (B : Hp) : List (List Key × V) → List (List Key × D) → Prop
  | nil : RpsT K B [] []
  | cons {k : List Key} {v : V} {vs : List (List Key × V)} {d : D} {ds : List (List Key × D)} : Rp K B v d → RpsT K B vs ds → RpsT K B ((k, v) :: vs) ((k, d) :: ds)
inductive RpsK (K : PySem.W.Frag) (B : Hp) : List (Key × V) → List (Key × D) → Prop
  | nil : RpsK K B [] []
  | cons {k : Key} {v : V} {vs : List (Key × V)} {d : D} {ds : List (Key × D)} : Rp K B v d → RpsK K B vs ds → RpsK K B ((k, v) :: vs) ((k, d) :: ds)
end

/-- all that stands in B stands so in B' -/
def Le (B B' : Hp) : Prop := ∀ a o, B a = some o → B' a = some o
theorem Le.refl (B : Hp) : Le B B := fun _ _ h => h
theorem Le.trans {A B C : Hp} (h : Le A B) (g : Le B C) : Le A C := fun a o q => g a o (h a o q)
theorem Le.sqL {K : PySem.W.Frag} {B B' : Hp} {a : Addr} {xs : List V} (e : Le B B') (h : SqL K B a xs) : SqL K B' a xs := Same.seq e h
theorem Le.sqT {K : PySem.W.Frag} {B B' : Hp} {a : Addr} {xs : List V} (e : Le B B') (h : SqT K B a xs) : SqT K B' a xs := by
  rcases h with (h | ⟨o, h⟩) | h
  · exact .inl (.inl (e _ _ h))
  · exact .inl (.inr ⟨o, e _ _ h⟩)
  · exact .inr h
mutual
theorem Rp.le {K : PySem.W.Frag} {B B' : Hp} (e : Le B B') : ∀ {v : V} {d : D}, Rp K B v d → Rp K B' v d
  | _, _, .non => .non
  | _, _, .bl b => .bl b
  | _, _, .int i => .int i
  | _, _, .str x => .str x
  | _, _, .tup h r => .tup (e _ _ h) (Rps.le e r)
  | _, _, .lst h r => .lst (e _ _ h) (Rps.le e r)
  | _, _, .dT h r q => .dT (e _ _ h) (RpsT.le e r) q
  | _, _, .dK h r q => .dK (e _ _ h) (RpsK.le e r) q
theorem Rps.le {K : PySem.W.Frag} {B B' : Hp} (e : Le B B') : ∀ {vs : List V} {ds : List D}, Rps K B vs ds → Rps K B' vs ds
  | _, _, .nil => .nil
  | _, _, .cons h r => .cons (Rp.le e h) (Rps.le e r)
theorem RpsT.le {K : PySem.W.Frag} {B B' : Hp} (e : Le B B') : ∀ {vs : List (List Key × V)} {ds : List (List Key × D)}, RpsT K B vs ds → RpsT K B' vs ds
  | _, _, .nil => .nil
  | _, _, .cons h r => .cons (Rp.le e h) (RpsT.le e r)
theorem RpsK.le {K : PySem.W.Frag} {B B' : Hp} (e : Le B B') : ∀ {vs : List (Key × V)} {ds : List (Key × D)}, RpsK K B vs ds → RpsK K B' vs ds
  | _, _, .nil => .nil
  | _, _, .cons h r => .cons (Rp.le e h) (RpsK.le e r)
end
section
variable {K : PySem.W.Frag} {B : Hp}
theorem Rps.length : ∀ {vs : List V} {ds : List D}, Rps K B vs ds → vs.length = ds.length
  | _, _, .nil => rfl
  | _, _, .cons _ r => by rw [List.length_cons, List.length_cons, Rps.length r]
theorem Rps.get : ∀ {vs : List V} {ds : List D} {i : Nat} {v : V}, Rps K B vs ds → vs[i]? = some v → ∃ d, ds[i]? = some d ∧ Rp K B v d
  | _, _, _, _, .nil, e => by simp at e
  | _, _, 0, _, .cons h _, e => by simp at e; subst e; exact ⟨_, rfl, h⟩
  | _, _, i + 1, v, .cons _ r, e => by
    obtain ⟨d, h1, h2⟩ := Rps.get (i := i) (v := v) r (by simpa using e)
    exact ⟨d, by simpa using h1, h2⟩
theorem Rps.get' : ∀ {vs : List V} {ds : List D} {i : Nat} {d : D}, Rps K B vs ds → ds[i]? = some d → ∃ v, vs[i]? = some v ∧ Rp K B v d
  | _, _, _, _, .nil, e => by simp at e
  | _, _, 0, _, .cons h _, e => by simp at e; subst e; exact ⟨_, rfl, h⟩
  | _, _, i + 1, d, .cons _ r, e => by
    obtain ⟨v, h1, h2⟩ := Rps.get' (i := i) (d := d) r (by simpa using e)
    exact ⟨v, by simpa using h1, h2⟩
theorem Rps.append : ∀ {vs ws : List V} {ds es : List D}, Rps K B vs ds → Rps K B ws es → Rps K B (vs ++ ws) (ds ++ es)
  | _, _, _, _, .nil, s => s
  | _, _, _, _, .cons h r, s => .cons h (Rps.append r s)
theorem Rps.one {v : V} {d : D} (h : Rp K B v d) : Rps K B [v] [d] := .cons h .nil
theorem Rps.take : ∀ {vs : List V} {ds : List D} (n : Nat), Rps K B vs ds → Rps K B (vs.take n) (ds.take n)
  | _, _, 0, _ => .nil
  | _, _, _ + 1, .nil => .nil
  | _, _, n + 1, .cons h r => .cons h (Rps.take n r)
theorem Rps.drop : ∀ {vs : List V} {ds : List D} (n : Nat), Rps K B vs ds → Rps K B (vs.drop n) (ds.drop n)
  | _, _, 0, r => r
  | _, _, _ + 1, .nil => .nil
  | _, _, n + 1, .cons _ r => Rps.drop n r
theorem Rps.reverse : ∀ {vs : List V} {ds : List D}, Rps K B vs ds → Rps K B vs.reverse ds.reverse
  | _, _, .nil => .nil
  | _, _, .cons h r => by rw [List.reverse_cons, List.reverse_cons]; exact (Rps.reverse r).append (.one h)
theorem Rps.eraseIdx : ∀ {vs : List V} {ds : List D} (n : Nat), Rps K B vs ds → Rps K B (vs.eraseIdx n) (ds.eraseIdx n)
  | _, _, _, .nil => by simpa using Rps.nil
  | _, _, 0, .cons _ r => by simpa using r
  | _, _, n + 1, .cons h r => by simpa using Rps.cons h (Rps.eraseIdx n r)
theorem Rps.set : ∀ {vs : List V} {ds : List D} {v : V} {d : D} (n : Nat), Rp K B v d → Rps K B vs ds → Rps K B (vs.set n v) (ds.set n d)
  | _, _, _, _, _, _, .nil => by simpa using Rps.nil
  | _, _, _, _, 0, h, .cons _ r => .cons h r
  | _, _, _, _, n + 1, h, .cons h' r => .cons h' (Rps.set n h r)
theorem Rps.ints : ∀ (ns : List Int), Rps K B (ns.map V.int) (ns.map PyData.int)
  | [] => .nil
  | n :: r => .cons (.int n) (Rps.ints r)
theorem Rps.of_ints : ∀ {vs : List V} {ns : List Int}, Rps K B vs (ns.map PyData.int) → vs = ns.map V.int
  | _, [], .nil => rfl
  | _, n :: r, .cons h t => by
    cases h
    rw [Rps.of_ints t]
    rfl
end

/-! ### the state as data -/
/-- what stands at a place of a def's frame: nothing that is told; shared data; a list, a dict that this place alone knows; another thing -/
inductive Slot where
  | no
  | dat (d : D)
  | own (xs : List D)
  | ownT (kvs : List (List Key × D))
  | ownK (kvs : List (Key × D))
  | raw (v : V)
  /-- the law's stream -/
  | sta
structure Sg where
  sl : List Slot
  ct : Int
inductive Res (α : Type) where
  | ok (a : α) (g : Sg)
  | exc (n : Str) (ct : Int)
  | bad
abbrev M (α : Type) := Sg → Res α

/-- the cell of the law's stream: its list, the numbers' list, the numbers -/
structure StC where
  a : Addr
  na : Addr
  ns : List Int
/-- an entry: the heap as it stood, its shared part -/
structure An where
  H0 : Hp
  B0 : Hp
structure Ctx where
  K : PySem.W.Frag
  mg : Str → Option Value
  st : Option StC
  E : St → XK


def RepSlot (C : Ctx) (B H : Hp) : Slot → Option V → Prop
  | .no, _ => True
  | .dat d, o => ∃ v, o = some v ∧ Rp C.K B v d
  | .own xs, o => ∃ p vs, o = some (.ref p) ∧ B p = none ∧ H p = some (.lst vs) ∧ Rps C.K B vs xs
  | .ownT kvs, o => ∃ p ks, o = some (.ref p) ∧ B p = none ∧ H p = some (.dT ks) ∧ RpsT C.K B ks kvs
  | .ownK kvs, o => ∃ p ks, o = some (.ref p) ∧ B p = none ∧ H p = some (.dK ks) ∧ RpsK C.K B ks kvs
  | .raw v, o => o = some v
  | .sta, o => ∃ c, C.st = some c ∧ o = some (.ref c.a)
def Slot.isOwn : Slot → Bool
  | .own _ => true
  | .ownT _ => true
  | .ownK _ => true
  | _ => false
def ownAt (g : List Slot) (i : Nat) : Prop := ∃ s, g[i]? = some s ∧ s.isOwn = true

structure Rep (C : Ctx) (N : An) (σ : St) (H B : Hp) (g : Sg) : Prop where
  len : g.sl.length = σ.length
  slots : ∀ (i : Nat) (s : Slot), g.sl[i]? = some s → RepSlot C B H s (σ[i]?.getD none)
  sep : ∀ (i j : Nat) (p : Addr), i ≠ j → ownAt g.sl i → ownAt g.sl j → σ[i]? = some (some (.ref p)) → σ[j]? ≠ some (some (.ref p))
  sub : ∀ a o, B a = some o → H a = some o
  up : ∀ a o, N.B0 a = some o → B a = some o
  new : ∀ a o, B a = some o → N.B0 a = some o ∨ N.H0 a = none
  ownNew : ∀ (i : Nat) (p : Addr), ownAt g.sl i → σ[i]? = some (some (.ref p)) → N.H0 p = none
  keep : ∀ a o, N.H0 a = some o → (∀ c, C.st = some c → a ≠ c.a) → H a = some o
  st : ∀ c, C.st = some c → B c.a = none ∧ H c.a = some (.lst [.ref c.na, .int g.ct]) ∧ B c.na = some (.lst (c.ns.map V.int)) ∧ N.H0 c.a ≠ none

/-- new objects alone -/
structure Grow (H B H' B' : Hp) : Prop where
  h : Le H H'
  b : Le B B'
  n : ∀ a o, B' a = some o → B a = some o ∨ H a = none
  s : ∀ a o, B' a = some o → B a = some o ∨ H' a = some o
theorem Grow.refl {H B : Hp} : Grow H B H B := ⟨.refl _, .refl _, fun _ _ q => .inl q, fun _ _ q => .inl q⟩
theorem Grow.trans {H B H1 B1 H2 B2 : Hp} (x : Grow H B H1 B1) (y : Grow H1 B1 H2 B2) : Grow H B H2 B2 where
  h := x.h.trans y.h
  b := x.b.trans y.b
  n := fun a o q => by
    rcases y.n a o q with q | q
    · exact x.n a o q
    · right
      cases e : H a with
      | none => rfl
      | some u => rw [x.h a u e] at q; cases q
  s := fun a o q => by
    rcases y.s a o q with q | q
    · rcases x.s a o q with q | q
      · exact .inl q
      · exact .inr (y.h a o q)
    · exact .inr q
theorem Grow.upd {H B : Hp} {p : Addr} {o : HO} (h : H p = none) (hb : Le B H) : Grow H B (upd H p o) (upd B p o) where
  h := fun a u q => by rw [upd_ne (ne_of_none q h)]; exact q
  b := fun a u q => by rw [upd_ne (ne_of_none (hb a u q) h)]; exact q
  n := fun a u q => by
    by_cases e : a = p
    · subst e; exact .inr h
    · rw [upd_ne e] at q; exact .inl q
  s := fun a u q => by
    by_cases e : a = p
    · subst e; rw [upd_same] at q ⊢; exact .inr q
    · rw [upd_ne e] at q; exact .inl q
/-- .. that are not told -/
theorem Grow.only {H B H' : Hp} (h : Le H H') : Grow H B H' B := ⟨h, .refl _, fun _ _ q => .inl q, fun _ _ q => .inl q⟩

theorem Grow.apart {H B H' B' : Hp} (x : Grow H B H' B') {p : Addr} {o : HO} (n : B p = none) (h : H p = some o) : B' p = none := by
  cases q : B' p with
  | none => rfl
  | some u =>
    rcases x.n p u q with z | z
    · rw [n] at z; cases z
    · rw [h] at z; cases z
theorem RepSlot.grow {C : Ctx} {H B H' B' : Hp} (x : Grow H B H' B') : ∀ {s : Slot} {o : Option V}, RepSlot C B H s o → RepSlot C B' H' s o
  | .no, _, _ => trivial
  | .dat d, o, ⟨v, e, r⟩ => ⟨v, e, r.le x.b⟩
  | .own xs, o, ⟨p, vs, e, n, h, r⟩ => ⟨p, vs, e, x.apart n h, x.h _ _ h, r.le x.b⟩
  | .ownT xs, o, ⟨p, vs, e, n, h, r⟩ => ⟨p, vs, e, x.apart n h, x.h _ _ h, r.le x.b⟩
  | .ownK xs, o, ⟨p, vs, e, n, h, r⟩ => ⟨p, vs, e, x.apart n h, x.h _ _ h, r.le x.b⟩
  | .raw v, o, e => e
  | .sta, o, e => e

section
variable {C : Ctx} {N : An} {σ : St} {H B H' B' : Hp} {g : Sg}
/-- what is new was not there at the entry -/
theorem Rep.fresh (r : Rep C N σ H B g) {a : Addr} (h : H a = none) : N.H0 a = none := by
  cases e : N.H0 a with
  | none => rfl
  | some o =>
    by_cases q : ∃ c, C.st = some c ∧ a = c.a
    · obtain ⟨c, hc, rfl⟩ := q
      have := (r.st c hc).2.1
      rw [h] at this; cases this
    · have := r.keep a o e fun c hc z => q ⟨c, hc, z⟩
      rw [h] at this; cases this
theorem Rep.grow (r : Rep C N σ H B g) (x : Grow H B H' B') : Rep C N σ H' B' g where
  len := r.len
  slots := fun i s e => (r.slots i s e).grow x
  sep := r.sep
  sub := fun a o q => by
    rcases x.s a o q with z | z
    · exact x.h _ _ (r.sub a o z)
    · exact z
  up := fun a o q => x.b _ _ (r.up a o q)
  new := fun a o q => by
    rcases x.n a o q with z | z
    · exact r.new a o z
    · exact .inr (r.fresh z)
  ownNew := r.ownNew
  keep := fun a o q h => x.h _ _ (r.keep a o q h)
  st := fun c hc => by
    obtain ⟨h1, h2, h3, h4⟩ := r.st c hc
    refine ⟨?_, x.h _ _ h2, x.b _ _ h3, h4⟩
    cases q : B' c.a with
    | none => rfl
    | some u => rcases x.n c.a u q with z | z
                · rw [h1] at z; cases z
                · rw [h2] at z; cases z
end

/-- what follows an expression -/
def Fin (C : Ctx) (N : An) (σ : St) (B : Hp) (r : Res D) (Q : VK) : Prop := match r with
  | .ok d g => ∀ v H' B', Rep C N σ H' B' g → Le B B' → Rp C.K B' v d → Q v H'
  | .exc n ct => ∀ cl H' B', Rep C N σ H' B' ⟨σ.map fun _ => Slot.no, ct⟩ → C.mg n = some (.ref cl) → C.E σ (.ref cl) none H'
  | .bad => False
/-- the reading t does what f says -/
def Sat (C : Ctx) (t : TE) (f : M D) : Prop := ∀ N σ H B g (Q : VK), Rep C N σ H B g → Fin C N σ B (f g) Q → t σ H Q
/-- a test -/
def FinT (C : Ctx) (N : An) (σ : St) (B : Hp) (r : Res Bool) (Q : Bool → Hp → Prop) : Prop := match r with
  | .ok b g => ∀ H' B', Rep C N σ H' B' g → Le B B' → Q b H'
  | .exc n ct => ∀ cl H' B', Rep C N σ H' B' ⟨σ.map fun _ => Slot.no, ct⟩ → C.mg n = some (.ref cl) → C.E σ (.ref cl) none H'
  | .bad => False
def SatT (C : Ctx) (t : TT) (f : M Bool) : Prop := ∀ N σ H B g (Q : Bool → Hp → Prop), Rep C N σ H B g → FinT C N σ B (f g) Q → t σ H Q
/-- arguments -/
def FinA (C : Ctx) (N : An) (σ : St) (B : Hp) (r : Res (List D)) (Q : List V → Hp → Prop) : Prop := match r with
  | .ok ds g => ∀ vs H' B', Rep C N σ H' B' g → Le B B' → Rps C.K B' vs ds → Q vs H'
  | .exc n ct => ∀ cl H' B', Rep C N σ H' B' ⟨σ.map fun _ => Slot.no, ct⟩ → C.mg n = some (.ref cl) → C.E σ (.ref cl) none H'
  | .bad => False
def SatA (C : Ctx) (t : TA) (f : M (List D)) : Prop := ∀ N σ H B g (Q : List V → Hp → Prop), Rep C N σ H B g → FinA C N σ B (f g) Q → t σ H Q
inductive Fl where
  | next | brk | cont
  | ret (d : D)
def FinS (C : Ctx) (N : An) (B : Hp) (r : Res Fl) (D : Ends) : Prop := match r with
  | .ok .next g => ∀ σ' H' B', Rep C N σ' H' B' g → Le B B' → D.nx σ' H'
  | .ok .brk g => ∀ σ' H' B', Rep C N σ' H' B' g → Le B B' → D.bk σ' H'
  | .ok .cont g => ∀ σ' H' B', Rep C N σ' H' B' g → Le B B' → D.ct σ' H'
  | .ok (.ret d) g => ∀ v σ' H' B', Rep C N σ' H' B' g → Le B B' → Rp C.K B' v d → D.rt v H'
  | .exc n ct => ∀ cl σ' H' B', Rep C N σ' H' B' ⟨σ'.map fun _ => Slot.no, ct⟩ → C.mg n = some (.ref cl) → C.E σ' (.ref cl) none H'
  | .bad => False
def SatS (C : Ctx) (t : TS) (f : M Fl) : Prop := ∀ N σ H B g (D : Ends), Rep C N σ H B g → FinS C N B (f g) D → t D σ H

/-! ### the monad -/
def Res.bind {α β : Type} (r : Res α) (k : α → M β) : Res β := match r with
  | .ok a g => k a g
  | .exc n ct => .exc n ct
  | .bad => .bad
def bindM {α β : Type} (f : M α) (k : α → M β) : M β := fun g => (f g).bind k
def pureM {α : Type} (a : α) : M α := fun g => .ok a g
def liftO {α : Type} (o : Option α) : M α := fun g => match o with
  | some a => .ok a g
  | none => .bad
@[simp] theorem bind_ok {α β : Type} {a : α} {g : Sg} {k : α → M β} : (Res.ok a g).bind k = k a g := rfl
@[simp] theorem bind_exc {α β : Type} {n : Str} {ct : Int} {k : α → M β} : (Res.exc n ct : Res α).bind k = .exc n ct := rfl
@[simp] theorem bind_bad {α β : Type} {k : α → M β} : (Res.bad : Res α).bind k = .bad := rfl

/-- one reading behind another -/
theorem Fin.bind {C : Ctx} {N : An} {σ : St} {B : Hp} {r : Res D} {k : D → M D} {Q : VK} (h : Fin C N σ B (r.bind k) Q) {Q' : VK}
    (hk : ∀ d g v H' B', Rep C N σ H' B' g → Le B B' → Rp C.K B' v d → Fin C N σ B' (k d g) Q → Q' v H') : Fin C N σ B r Q' := by
  cases r with
  | ok d g =>
    intro v H' B' R L rp
    refine hk d g v H' B' R L rp ?_
    have h : Fin C N σ B (k d g) Q := h
    revert h
    cases k d g with
    | ok d2 g2 => exact fun h v2 H2 B2 R2 L2 r2 => h v2 H2 B2 R2 (L.trans L2) r2
    | exc n ct => exact id
    | bad => exact id
  | exc n ct => exact h
  | bad => exact h
end DL

set_option Elab.async false
set_option linter.all false
set_option maxRecDepth 100000
set_option maxHeartbeats 4000000
namespace DL
open PySem PySem.Spec L2
open PyProof.Rows hiding St

section
variable {C : Ctx} {N : An} {σ : St} {H B H' B' : Hp} {g : Sg}

/-! ### places -/
theorem RepSlot.more {C : Ctx} {B B' H : Hp} (L : Le B B') : ∀ {s : Slot} {o : Option V}, (∀ q, s.isOwn = true → o = some (.ref q) → B q = none → B' q = none) → RepSlot C B H s o → RepSlot C B' H s o
  | .no, _, _, _ => trivial
  | .dat d, o, _, ⟨v, e, r⟩ => ⟨v, e, r.le L⟩
  | .own xs, o, hn, ⟨p, vs, e, n, h, r⟩ => ⟨p, vs, e, hn p rfl e n, h, r.le L⟩
  | .ownT xs, o, hn, ⟨p, vs, e, n, h, r⟩ => ⟨p, vs, e, hn p rfl e n, h, r.le L⟩
  | .ownK xs, o, hn, ⟨p, vs, e, n, h, r⟩ => ⟨p, vs, e, hn p rfl e n, h, r.le L⟩
  | .raw v, o, _, e => e
  | .sta, o, _, e => e
theorem own_get {C : Ctx} {B H : Hp} {s : Slot} {o : Option V} (h : s.isOwn = true) (r : RepSlot C B H s o) : ∃ p, o = some (.ref p) ∧ B p = none ∧ H p ≠ none := by
  cases s with
  | no => cases h
  | dat _ => cases h
  | raw _ => cases h
  | sta => cases h
  | own xs => obtain ⟨p, vs, e, n, q, _⟩ := r; exact ⟨p, e, n, by rw [q]; exact fun z => by cases z⟩
  | ownT xs => obtain ⟨p, vs, e, n, q, _⟩ := r; exact ⟨p, e, n, by rw [q]; exact fun z => by cases z⟩
  | ownK xs => obtain ⟨p, vs, e, n, q, _⟩ := r; exact ⟨p, e, n, by rw [q]; exact fun z => by cases z⟩
theorem getD_some {i : Nat} {v : V} (h : σ[i]?.getD none = some v) : σ[i]? = some (some v) := by
  cases e : σ[i]? with
  | none => rw [e] at h; cases h
  | some o => rw [e] at h; exact congrArg some h
theorem set_get {l : List Slot} {i j : Nat} {s s' : Slot} (h : (l.set i s)[j]? = some s') : (j = i ∧ s' = s) ∨ (j ≠ i ∧ l[j]? = some s') := by
  by_cases e : i = j
  · subst e
    by_cases hl : i < l.length
    · rw [List.getElem?_set_self hl] at h
      exact .inl ⟨rfl, (Option.some.inj h).symm⟩
    · rw [List.getElem?_eq_none (by simpa using hl)] at h; cases h
  · rw [List.getElem?_set_ne e] at h
    exact .inr ⟨fun z => e z.symm, h⟩
theorem ownAt_set {l : List Slot} {i j : Nat} {s : Slot} (h : ownAt (l.set i s) j) : (j = i ∧ s.isOwn = true) ∨ (j ≠ i ∧ ownAt l j) := by
  obtain ⟨s', h1, h2⟩ := h
  rcases set_get h1 with ⟨e, e2⟩ | ⟨e, h1⟩
  · subst e2; exact .inl ⟨e, h2⟩
  · exact .inr ⟨e, s', h1, h2⟩
/-- the cell of the stream is none of what is known here alone -/
theorem Rep.stne (r : Rep C N σ H B g) {c : StC} (hc : C.st = some c) {p : Addr} (h : N.H0 p = none) : c.a ≠ p := fun e => (r.st c hc).2.2.2 (e ▸ h)
/-- an object that nobody else knows is shared from now on -/
theorem Rep.share (r : Rep C N σ H B g) {p : Addr} {o : HO} (hH : H p = some o) (hB : B p = none) (h0 : N.H0 p = none) (hs : ∀ j : Nat, ownAt g.sl j → σ[j]? ≠ some (some (.ref p))) :
    Rep C N σ H (upd B p o) g ∧ Le B (upd B p o) := by
  have L : Le B (upd B p o) := fun a u q => by rw [upd_ne (ne_of_none q hB)]; exact q
  refine ⟨⟨r.len, fun i s e => ?_, r.sep, fun a u q => ?_, fun a u q => L _ _ (r.up a u q), fun a u q => ?_, r.ownNew, r.keep, fun c hc => ?_⟩, L⟩
  · refine (r.slots i s e).more L fun q hq e2 n => ?_
    have : q ≠ p := fun z => hs i ⟨s, e, hq⟩ (by rw [← z]; exact getD_some e2)
    rw [upd_ne this]; exact n
  · by_cases e : a = p
    · subst e; rw [upd_same] at q; rw [hH]; exact q
    · rw [upd_ne e] at q; exact r.sub a u q
  · by_cases e : a = p
    · subst e; exact .inr h0
    · rw [upd_ne e] at q; exact r.new a u q
  · obtain ⟨h1, h2, h3, h4⟩ := r.st c hc
    exact ⟨by rw [upd_ne (r.stne hc h0)]; exact h1, h2, L _ _ h3, h4⟩
/-- a place is forgotten, or holds what is shared -/
theorem Rep.put (r : Rep C N σ H B g) (i : Nat) {s : Slot} (hs : s.isOwn = false) {σ' : St} (hl : σ'.length = σ.length) (ho : ∀ j : Nat, j ≠ i → σ'[j]? = σ[j]?) (h : RepSlot C B H s (σ'[i]?.getD none)) :
    Rep C N σ' H B { g with sl := g.sl.set i s } := by
  refine ⟨by simpa [hl] using r.len, fun j s' e => ?_, fun j k p hjk h1 h2 e1 => ?_, r.sub, r.up, r.new, fun j p h1 e1 => ?_, r.keep, r.st⟩
  · rcases set_get e with ⟨e1, e2⟩ | ⟨e1, e2⟩
    · subst e1 e2; exact h
    · rw [ho j e1]; exact r.slots j s' e2
  · rcases ownAt_set h1 with ⟨_, z⟩ | ⟨z1, h1⟩
    · rw [hs] at z; cases z
    rcases ownAt_set h2 with ⟨_, z⟩ | ⟨z2, h2⟩
    · rw [hs] at z; cases z
    rw [ho j z1] at e1
    rw [ho k z2]
    exact r.sep j k p hjk h1 h2 e1
  · rcases ownAt_set h1 with ⟨_, z⟩ | ⟨z1, h1⟩
    · rw [hs] at z; cases z
    rw [ho j z1] at e1
    exact r.ownNew j p h1 e1
/-- a place that knows an object alone gives it to all -/
theorem Rep.freeze (r : Rep C N σ H B g) {i : Nat} {s : Slot} {p : Addr} {o : HO} {d : D} (hi : g.sl[i]? = some s) (hs : s.isOwn = true) (hp : σ[i]? = some (some (.ref p))) (hH : H p = some o) (hB : B p = none)
    (hd : Rp C.K (upd B p o) (.ref p) d) : Rep C N σ H (upd B p o) { g with sl := g.sl.set i (.dat d) } ∧ Le B (upd B p o) := by
  have r1 : Rep C N σ H B { g with sl := g.sl.set i .no } := r.put i rfl rfl (fun _ _ => rfl) trivial
  have h0 : N.H0 p = none := r.ownNew i p ⟨s, hi, hs⟩ hp
  obtain ⟨r2, L⟩ := r1.share hH hB h0 fun j hj e => by
    rcases ownAt_set hj with ⟨_, z⟩ | ⟨z1, hj⟩
    · cases z
    · exact r.sep i j p (Ne.symm z1) ⟨s, hi, hs⟩ hj hp e
  refine ⟨?_, L⟩
  have r3 := r2.put i (s := .dat d) rfl rfl (fun _ _ => rfl) ⟨.ref p, by rw [hp]; rfl, hd⟩
  have e : (g.sl.set i Slot.no).set i (.dat d) = g.sl.set i (.dat d) := by rw [List.set_set]
  simpa [e] using r3
end

/-! ### names and constants -/
def dT (ds : List (List Key × D)) : D := .dict (ds.map fun p => (keyTD p.1, p.2))
def dK (ds : List (Key × D)) : D := .dict (ds.map fun p => (keyD p.1, p.2))
def getM (i : Nat) : M D := fun g => match g.sl[i]? with
  | some (.dat d) => .ok d g
  | some (.own xs) => .ok (.list xs) { g with sl := g.sl.set i (.dat (.list xs)) }
  | some (.ownT kvs) => .ok (dT kvs) { g with sl := g.sl.set i (.dat (dT kvs)) }
  | some (.ownK kvs) => .ok (dK kvs) { g with sl := g.sl.set i (.dat (dK kvs)) }
  | _ => .bad
section
variable {C : Ctx}
theorem sat_var {i : Nat} : Sat C (tVar i) (getM i) := by
  intro N σ H B g Q R h
  unfold getM at h
  cases e : g.sl[i]? with
  | none => rw [e] at h; exact h.elim
  | some s =>
    rw [e] at h
    have q := R.slots i s e
    cases s with
    | no => exact h.elim
    | raw v => exact h.elim
    | sta => exact h.elim
    | dat d =>
      obtain ⟨v, e2, r⟩ := q
      exact ⟨v, getD_some e2, h v H B R (.refl _) r⟩
    | own xs =>
      obtain ⟨p, vs, e2, n, hH, r⟩ := q
      have hp := getD_some e2
      have hd : Rp C.K (upd B p (.lst vs)) (.ref p) (.list xs) := .lst upd_same (r.le fun a u z => by rw [upd_ne (ne_of_none z n)]; exact z)
      obtain ⟨R2, L⟩ := R.freeze e rfl hp hH n hd
      exact ⟨_, hp, h _ H _ R2 L hd⟩
    | ownT kvs =>
      obtain ⟨p, vs, e2, n, hH, r⟩ := q
      have hp := getD_some e2
      have hd : Rp C.K (upd B p (.dT vs)) (.ref p) (dT kvs) := .dT upd_same (r.le fun a u z => by rw [upd_ne (ne_of_none z n)]; exact z) rfl
      obtain ⟨R2, L⟩ := R.freeze e rfl hp hH n hd
      exact ⟨_, hp, h _ H _ R2 L hd⟩
    | ownK kvs =>
      obtain ⟨p, vs, e2, n, hH, r⟩ := q
      have hp := getD_some e2
      have hd : Rp C.K (upd B p (.dK vs)) (.ref p) (dK kvs) := .dK upd_same (r.le fun a u z => by rw [upd_ne (ne_of_none z n)]; exact z) rfl
      obtain ⟨R2, L⟩ := R.freeze e rfl hp hH n hd
      exact ⟨_, hp, h _ H _ R2 L hd⟩
theorem sat_const {v : V} {d : D} (h : ∀ B, Rp C.K B v d) : Sat C (tC v) (pureM d) := fun N σ H B g Q R q => q v H B R (.refl _) (h B)
theorem sat_int {i : Int} : Sat C (tC (.int i)) (pureM (.int i)) := sat_const fun _ => .int i
theorem sat_str {x : Str} : Sat C (tC (.str x)) (pureM (.str x)) := sat_const fun _ => .str x
theorem sat_bl {b : Bool} : Sat C (tC (.bl b)) (pureM (.bool b)) := sat_const fun _ => .bl b
theorem sat_non : Sat C (tC .non) (pureM .none) := sat_const fun _ => .non

/-! ### one behind another -/
theorem Sat.thn {t : TE} {f : M D} (h : Sat C t f) {N : An} {σ : St} {H B : Hp} {g : Sg} {Q : VK} (R : Rep C N σ H B g) {k : D → M D} {Q' : VK} (hf : Fin C N σ B (bindM f k g) Q')
    (hk : ∀ d g' v H' B', f g = .ok d g' → Rep C N σ H' B' g' → Le B B' → Rp C.K B' v d → Fin C N σ B' (k d g') Q' → Q v H') : t σ H Q := by
  refine h N σ H B g Q R ?_
  have hf : Fin C N σ B ((f g).bind k) Q' := hf
  cases e : f g with
  | ok d g' =>
    rw [e] at hf
    intro v H' B' R' L rp
    refine hk d g' v H' B' e R' L rp ?_
    have hf : Fin C N σ B (k d g') Q' := hf
    revert hf
    cases k d g' with
    | ok d2 g2 => exact fun hf v2 H2 B2 R2 L2 r2 => hf v2 H2 B2 R2 (L.trans L2) r2
    | exc n ct => exact id
    | bad => exact id
  | exc n ct => rw [e] at hf; exact hf
  | bad => rw [e] at hf; exact hf.elim
theorem FinA.le {N : An} {σ : St} {B B' : Hp} {r : Res (List D)} {Q : List V → Hp → Prop} (L : Le B B') (h : FinA C N σ B r Q) : FinA C N σ B' r Q := by
  cases r with
  | ok d g => exact fun v H' B2 R L2 rp => h v H' B2 R (L.trans L2) rp
  | exc n ct => exact h
  | bad => exact h
theorem Fin.le {N : An} {σ : St} {B B' : Hp} {r : Res D} {Q : VK} (L : Le B B') (h : Fin C N σ B r Q) : Fin C N σ B' r Q := by
  cases r with
  | ok d g => exact fun v H' B2 R L2 rp => h v H' B2 R (L.trans L2) rp
  | exc n ct => exact h
  | bad => exact h
theorem FinT.le {N : An} {σ : St} {B B' : Hp} {r : Res Bool} {Q : Bool → Hp → Prop} (L : Le B B') (h : FinT C N σ B r Q) : FinT C N σ B' r Q := by
  cases r with
  | ok d g => exact fun H' B2 R L2 => h H' B2 R (L.trans L2)
  | exc n ct => exact h
  | bad => exact h
theorem FinS.le {N : An} {B B' : Hp} {r : Res Fl} {D : Ends} (L : Le B B') (h : FinS C N B r D) : FinS C N B' r D := by
  cases r with
  | ok d g =>
    cases d with
    | next => exact fun σ' H' B2 R L2 => h σ' H' B2 R (L.trans L2)
    | brk => exact fun σ' H' B2 R L2 => h σ' H' B2 R (L.trans L2)
    | cont => exact fun σ' H' B2 R L2 => h σ' H' B2 R (L.trans L2)
    | ret d => exact fun v σ' H' B2 R L2 rp => h v σ' H' B2 R (L.trans L2) rp
  | exc n ct => exact h
  | bad => exact h
/-- .. towards any kind of end: what the first part's exception, its being bad mean is given -/
theorem Sat.run {t : TE} {f : M D} (h : Sat C t f) {N : An} {σ : St} {H B : Hp} {g : Sg} {Q : VK} (R : Rep C N σ H B g) {β : Type} {k : D → M β} {P : Res β → Prop} (hf : P (bindM f k g))
    (hx : ∀ n ct, P (.exc n ct) → ∀ cl H' B', Rep C N σ H' B' ⟨σ.map fun _ => Slot.no, ct⟩ → C.mg n = some (.ref cl) → C.E σ (.ref cl) none H') (hb : ¬ P .bad)
    (hk : ∀ d g' v H' B', f g = .ok d g' → Rep C N σ H' B' g' → Le B B' → Rp C.K B' v d → P (k d g') → Q v H') : t σ H Q := by
  refine h N σ H B g Q R ?_
  have hf : P ((f g).bind k) := hf
  cases e : f g with
  | ok d g' => rw [e] at hf; exact fun v H' B' R' L rp => hk d g' v H' B' e R' L rp hf
  | exc n ct => rw [e] at hf; exact hx n ct hf
  | bad => rw [e] at hf; exact hb hf
theorem SatT.run {t : TT} {f : M Bool} (h : SatT C t f) {N : An} {σ : St} {H B : Hp} {g : Sg} {Q : Bool → Hp → Prop} (R : Rep C N σ H B g) {β : Type} {k : Bool → M β} {P : Res β → Prop} (hf : P (bindM f k g))
    (hx : ∀ n ct, P (.exc n ct) → ∀ cl H' B', Rep C N σ H' B' ⟨σ.map fun _ => Slot.no, ct⟩ → C.mg n = some (.ref cl) → C.E σ (.ref cl) none H') (hb : ¬ P .bad)
    (hk : ∀ d g' H' B', f g = .ok d g' → Rep C N σ H' B' g' → Le B B' → P (k d g') → Q d H') : t σ H Q := by
  refine h N σ H B g Q R ?_
  have hf : P ((f g).bind k) := hf
  cases e : f g with
  | ok d g' => rw [e] at hf; exact fun H' B' R' L => hk d g' H' B' e R' L hf
  | exc n ct => rw [e] at hf; exact hx n ct hf
  | bad => rw [e] at hf; exact hb hf
theorem SatA.run {t : TA} {f : M (List D)} (h : SatA C t f) {N : An} {σ : St} {H B : Hp} {g : Sg} {Q : List V → Hp → Prop} (R : Rep C N σ H B g) {β : Type} {k : List D → M β} {P : Res β → Prop} (hf : P (bindM f k g))
    (hx : ∀ n ct, P (.exc n ct) → ∀ cl H' B', Rep C N σ H' B' ⟨σ.map fun _ => Slot.no, ct⟩ → C.mg n = some (.ref cl) → C.E σ (.ref cl) none H') (hb : ¬ P .bad)
    (hk : ∀ d g' vs H' B', f g = .ok d g' → Rep C N σ H' B' g' → Le B B' → Rps C.K B' vs d → P (k d g') → Q vs H') : t σ H Q := by
  refine h N σ H B g Q R ?_
  have hf : P ((f g).bind k) := hf
  cases e : f g with
  | ok d g' => rw [e] at hf; exact fun v H' B' R' L rp => hk d g' v H' B' e R' L rp hf
  | exc n ct => rw [e] at hf; exact hx n ct hf
  | bad => rw [e] at hf; exact hb hf

/-! ### argument lists -/
def consM (f : M D) (r : M (List D)) : M (List D) := bindM f fun d => bindM r fun ds => pureM (d :: ds)
theorem satA_nil : SatA C tNil (pureM []) := fun N σ H B g Q R q => q [] H B R (.refl _) .nil
theorem satA_cons {ta : TE} {tr : TA} {f : M D} {r : M (List D)} (ha : Sat C ta f) (hr : SatA C tr r) : SatA C (tCons ta tr) (consM f r) := by
  intro N σ H B g Q R q
  refine ha.run (P := fun x => FinA C N σ B x Q) R q (fun n ct z => z) (fun z => z) fun d g' v H1 B1 _ R1 L1 rp1 q1 => ?_
  refine hr.run (P := fun x => FinA C N σ B x Q) R1 q1 (fun n ct z => z) (fun z => z) fun ds g2 vs H2 B2 _ R2 L2 rp2 q2 => ?_
  exact q2 _ H2 B2 R2 (L1.trans L2) (.cons (rp1.le L2) rp2)

/-! ### displays -/
def tupM (f : M (List D)) : M D := bindM f fun ds => if ds.length ≤ sizeLine then pureM (.tuple ds) else fun _ => .bad
theorem sat_tup {t : TA} {f : M (List D)} (h : SatA C t f) : Sat C (tTup t) (tupM f) := by
  intro N σ H B g Q R q
  refine h.run (P := fun x => Fin C N σ B x Q) R q (fun n ct z => z) (fun z => z) fun ds g' vs H1 B1 _ R1 L1 rp1 q1 => ?_
  by_cases hl : ds.length ≤ sizeLine
  · rw [if_pos hl] at q1
    refine ⟨by rw [rp1.length]; exact hl, fun p hp => ?_⟩
    have G : Grow H1 B1 (upd H1 p (.tup vs)) (upd B1 p (.tup vs)) := .upd hp R1.sub
    exact q1 _ _ _ (R1.grow G) (L1.trans G.b) (.tup upd_same (rp1.le G.b))
  · rw [if_neg hl] at q1; exact q1.elim
/-- a value that nobody else knows: a list -/
def FinF (C : Ctx) (N : An) (σ : St) (B : Hp) (r : Res (List D)) (Q : VK) : Prop := match r with
  | .ok xs g => ∀ p vs H' B', Rep C N σ H' B' g → Le B B' → B' p = none → H' p = some (.lst vs) → Rps C.K B' vs xs → N.H0 p = none → (∀ j : Nat, ownAt g.sl j → σ[j]? ≠ some (some (.ref p))) → Q (.ref p) H'
  | .exc n ct => ∀ cl H' B', Rep C N σ H' B' ⟨σ.map fun _ => Slot.no, ct⟩ → C.mg n = some (.ref cl) → C.E σ (.ref cl) none H'
  | .bad => False
def SatF (C : Ctx) (t : TE) (f : M (List D)) : Prop := ∀ N σ H B g (Q : VK), Rep C N σ H B g → FinF C N σ B (f g) Q → t σ H Q
def lstM (f : M (List D)) : M D := bindM f fun ds => pureM (.list ds)
theorem SatF.sat {t : TE} {f : M (List D)} (h : SatF C t f) : Sat C t (lstM f) := by
  intro N σ H B g Q R q
  refine h N σ H B g Q R ?_
  have q : Fin C N σ B ((f g).bind fun ds => pureM (.list ds)) Q := q
  cases e : f g with
  | ok xs g' =>
    rw [e] at q
    intro p vs H' B' R' L n hH r h0 hs
    obtain ⟨R2, L2⟩ := R'.share hH n h0 hs
    exact q _ _ _ R2 (L.trans L2) (.lst upd_same (r.le L2))
  | exc n ct => rw [e] at q; exact q
  | bad => rw [e] at q; exact q
/-- an object at a free place is nobody's -/
theorem Rep.free_own {N : An} {σ : St} {H B : Hp} {g : Sg} (R : Rep C N σ H B g) {p : Addr} (hp : H p = none) (j : Nat) (hj : ownAt g.sl j) : σ[j]? ≠ some (some (.ref p)) := by
  intro e
  obtain ⟨s, h1, h2⟩ := hj
  obtain ⟨q, e2, _, hq⟩ := own_get h2 (R.slots j s h1)
  rw [e] at e2
  cases e2
  exact hq hp
theorem Rep.sub_none {N : An} {σ : St} {H B : Hp} {g : Sg} (R : Rep C N σ H B g) {p : Addr} (hp : H p = none) : B p = none := by
  cases e : B p with
  | none => rfl
  | some o => rw [R.sub p o e] at hp; cases hp
/-- a new list at a free place -/
theorem Rep.newl {N : An} {σ : St} {H B : Hp} {g : Sg} (R : Rep C N σ H B g) {p : Addr} {o : HO} (hp : H p = none) : Rep C N σ (upd H p o) B g :=
  R.grow (.only fun a u q => by rw [upd_ne (ne_of_none q hp)]; exact q)
def guardL (f : M (List D)) : M (List D) := bindM f fun ds => if ds.length ≤ sizeLine then pureM ds else fun _ => .bad
theorem satF_lst {t : TA} {f : M (List D)} (h : SatA C t f) : SatF C (tLst t) (guardL f) := by
  intro N σ H B g Q R q
  refine h.run (P := fun x => FinF C N σ B x Q) R q (fun n ct z => z) (fun z => z) fun ds g' vs H1 B1 _ R1 L1 rp1 q1 => ?_
  by_cases hl : ds.length ≤ sizeLine
  · rw [if_pos hl] at q1
    refine ⟨by rw [rp1.length]; exact hl, fun p hp => ?_⟩
    exact q1 p vs _ B1 (R1.newl hp) L1 (R1.sub_none hp) upd_same rp1 (R1.fresh hp) fun j hj => R1.free_own hp j hj
  · rw [if_neg hl] at q1; exact q1.elim

/-! ### operators by values -/
def V1 (C : Ctx) (r : V → Hp → VK → Prop) (h : D → Option D) : Prop := ∀ H B x dx d (Q : VK), Le B H → Rp C.K B x dx → h dx = some d → (∀ v H' B', Grow H B H' B' → Rp C.K B' v d → Q v H') → r x H Q
def V2 (C : Ctx) (r : R2) (h : D → D → Option D) : Prop := ∀ H B x y dx dy d (Q : VK), Le B H → Rp C.K B x dx → Rp C.K B y dy → h dx dy = some d → (∀ v H' B', Grow H B H' B' → Rp C.K B' v d → Q v H') → r x y H Q
def VN (C : Ctx) (r : List V → Hp → VK → Prop) (h : List D → Option D) : Prop := ∀ H B xs ds d (Q : VK), Le B H → Rps C.K B xs ds → h ds = some d → (∀ v H' B', Grow H B H' B' → Rp C.K B' v d → Q v H') → r xs H Q
def op1 (h : D → Option D) (f : M D) : M D := bindM f fun x => liftO (h x)
def op2 (h : D → D → Option D) (f k : M D) : M D := bindM f fun x => bindM k fun y => liftO (h x y)
def opN (h : List D → Option D) (f : M (List D)) : M D := bindM f fun xs => liftO (h xs)
theorem lift_fin {N : An} {σ : St} {B H1 B1 : Hp} {o : Option D} {g : Sg} {Q : VK} (R : Rep C N σ H1 B1 g) (L : Le B B1) (h : Fin C N σ B (liftO o g) Q) : ∃ d, o = some d ∧ ∀ v H' B', Grow H1 B1 H' B' → Rp C.K B' v d → Q v H' := by
  cases o with
  | none => exact h.elim
  | some d => exact ⟨d, rfl, fun v H' B' G rp => h v H' B' (R.grow G) (L.trans G.b) rp⟩
theorem sat_un {r : V → Hp → VK → Prop} {h : D → Option D} {ta : TE} {f : M D} (hr : V1 C r h) (ha : Sat C ta f) : Sat C (tUn r ta) (op1 h f) := by
  intro N σ H B g Q R q
  refine ha.run (P := fun x => Fin C N σ B x Q) R q (fun n ct z => z) (fun z => z) fun d g' v H1 B1 _ R1 L1 rp1 q1 => ?_
  obtain ⟨d2, e, q2⟩ := lift_fin R1 L1 q1
  exact hr H1 B1 v d d2 Q R1.sub rp1 e q2
theorem sat_op {r : R2} {h : D → D → Option D} {ta tb : TE} {f k : M D} (hr : V2 C r h) (ha : Sat C ta f) (hb : Sat C tb k) : Sat C (tOp r ta tb) (op2 h f k) := by
  intro N σ H B g Q R q
  refine ha.run (P := fun x => Fin C N σ B x Q) R q (fun n ct z => z) (fun z => z) fun d g' v H1 B1 _ R1 L1 rp1 q1 => ?_
  refine hb.run (P := fun x => Fin C N σ B x Q) R1 q1 (fun n ct z => z) (fun z => z) fun d2 g2 v2 H2 B2 _ R2 L2 rp2 q2 => ?_
  obtain ⟨d3, e, q3⟩ := lift_fin R2 (L1.trans L2) q2
  exact hr H2 B2 v v2 d d2 d3 Q R2.sub (rp1.le L2) rp2 e q3
theorem sat_cb {r : List V → Hp → VK → Prop} {h : List D → Option D} {t : TA} {f : M (List D)} (hr : VN C r h) (ha : SatA C t f) : Sat C (tCB r t) (opN h f) := by
  intro N σ H B g Q R q
  refine ha.run (P := fun x => Fin C N σ B x Q) R q (fun n ct z => z) (fun z => z) fun d g' v H1 B1 _ R1 L1 rp1 q1 => ?_
  obtain ⟨d2, e, q2⟩ := lift_fin R1 L1 q1
  exact hr H1 B1 v d d2 Q R1.sub rp1 e q2

/-! ### tests -/
def asB (f : M D) : M Bool := bindM f fun d => match d with
  | .bool b => pureM b
  | _ => fun _ => .bad
theorem satT_b {t : TE} {f : M D} (h : Sat C t f) : SatT C (tB t) (asB f) := by
  intro N σ H B g Q R q
  refine h.run (P := fun x => FinT C N σ B x Q) R q (fun n ct z => z) (fun z => z) fun d g' v H1 B1 _ R1 L1 rp1 q1 => ?_
  cases d with
  | bool b => cases rp1; exact ⟨b, rfl, q1 H1 B1 R1 L1⟩
  | _ => exact q1.elim
theorem satT_t {t : TE} {f : M D} (h : Sat C t f) : SatT C (tTest t) (asB f) := satT_b h
def andM (f k : M Bool) : M Bool := bindM f fun b => if b = true then k else pureM false
def orM (f k : M Bool) : M Bool := bindM f fun b => if b = true then pureM true else k
def notM (f : M Bool) : M Bool := bindM f fun b => pureM (!b)
theorem satT_and {t u : TT} {f k : M Bool} (h : SatT C t f) (h2 : SatT C u k) : SatT C (tAnd t u) (andM f k) := by
  intro N σ H B g Q R q
  refine h.run (P := fun x => FinT C N σ B x Q) R q (fun n ct z => z) (fun z => z) fun d g' H1 B1 _ R1 L1 q1 => ?_
  cases d with
  | true => exact h2 N σ H1 B1 g' Q R1 (FinT.le L1 q1)
  | false => exact q1 H1 B1 R1 L1
theorem satT_or {t u : TT} {f k : M Bool} (h : SatT C t f) (h2 : SatT C u k) : SatT C (tOr t u) (orM f k) := by
  intro N σ H B g Q R q
  refine h.run (P := fun x => FinT C N σ B x Q) R q (fun n ct z => z) (fun z => z) fun d g' H1 B1 _ R1 L1 q1 => ?_
  cases d with
  | true => exact q1 H1 B1 R1 L1
  | false => exact h2 N σ H1 B1 g' Q R1 (FinT.le L1 q1)
theorem satT_not {t : TT} {f : M Bool} (h : SatT C t f) : SatT C (tNot t) (notM f) := by
  intro N σ H B g Q R q
  refine h.run (P := fun x => FinT C N σ B x Q) R q (fun n ct z => z) (fun z => z) fun d g' H1 B1 _ R1 L1 q1 => ?_
  exact q1 H1 B1 R1 L1
/-- .. as values -/
def andV (f k : M D) : M D := bindM f fun d => match d with
  | .bool true => k
  | .bool false => pureM (.bool false)
  | _ => fun _ => .bad
def orV (f k : M D) : M D := bindM f fun d => match d with
  | .bool true => pureM (.bool true)
  | .bool false => k
  | _ => fun _ => .bad
def notV (f : M D) : M D := bindM f fun d => match d with
  | .bool b => pureM (.bool (!b))
  | _ => fun _ => .bad
theorem sat_andV {t u : TE} {f k : M D} (h : Sat C t f) (h2 : Sat C u k) : Sat C (tAndV t u) (andV f k) := by
  intro N σ H B g Q R q
  refine h.run (P := fun x => Fin C N σ B x Q) R q (fun n ct z => z) (fun z => z) fun d g' v H1 B1 _ R1 L1 rp1 q1 => ?_
  cases d with
  | bool b =>
    cases rp1
    cases b with
    | true => exact ⟨true, rfl, h2 N σ H1 B1 g' Q R1 (Fin.le L1 q1)⟩
    | false => exact ⟨false, rfl, q1 _ H1 B1 R1 L1 (.bl false)⟩
  | _ => exact q1.elim
theorem sat_orV {t u : TE} {f k : M D} (h : Sat C t f) (h2 : Sat C u k) : Sat C (tOrV t u) (orV f k) := by
  intro N σ H B g Q R q
  refine h.run (P := fun x => Fin C N σ B x Q) R q (fun n ct z => z) (fun z => z) fun d g' v H1 B1 _ R1 L1 rp1 q1 => ?_
  cases d with
  | bool b =>
    cases rp1
    cases b with
    | true => exact ⟨true, rfl, q1 _ H1 B1 R1 L1 (.bl true)⟩
    | false => exact ⟨false, rfl, h2 N σ H1 B1 g' Q R1 (Fin.le L1 q1)⟩
  | _ => exact q1.elim
theorem sat_notV {t : TE} {f : M D} (h : Sat C t f) : Sat C (tNotV t) (notV f) := by
  intro N σ H B g Q R q
  refine h.run (P := fun x => Fin C N σ B x Q) R q (fun n ct z => z) (fun z => z) fun d g' v H1 B1 _ R1 L1 rp1 q1 => ?_
  cases d with
  | bool b => cases rp1; exact ⟨b, rfl, q1 _ H1 B1 R1 L1 (.bl _)⟩
  | _ => exact q1.elim
def ifM {α : Type} (c : M Bool) (f k : M α) : M α := bindM c fun b => if b = true then f else k
theorem sat_if {c : TT} {t u : TE} {fc : M Bool} {f k : M D} (hc : SatT C c fc) (h : Sat C t f) (h2 : Sat C u k) : Sat C (tIf c t u) (ifM fc f k) := by
  intro N σ H B g Q R q
  refine hc.run (P := fun x => Fin C N σ B x Q) R q (fun n ct z => z) (fun z => z) fun d g' H1 B1 _ R1 L1 q1 => ?_
  cases d with
  | true => exact h N σ H1 B1 g' Q R1 (Fin.le L1 q1)
  | false => exact h2 N σ H1 B1 g' Q R1 (Fin.le L1 q1)
/-- a < b < c -/
def chainM (h h' : D → D → Option D) (f k l : M D) : M D := bindM f fun x => bindM k fun y => bindM (liftO (h x y)) fun b => match b with
  | .bool true => bindM l fun z => liftO (h' y z)
  | .bool false => pureM (.bool false)
  | _ => fun _ => .bad
theorem sat_chain {r r' : R2} {h h' : D → D → Option D} {ta tb tc : TE} {f k l : M D} (hr : V2 C r h) (hr' : V2 C r' h') (ha : Sat C ta f) (hb : Sat C tb k) (hc : Sat C tc l) : Sat C (tChain r r' ta tb tc) (chainM h h' f k l) := by
  intro N σ H B g Q R q
  refine ha.run (P := fun x => Fin C N σ B x Q) R q (fun n ct z => z) (fun z => z) fun d g' v H1 B1 _ R1 L1 rp1 q1 => ?_
  refine hb.run (P := fun x => Fin C N σ B x Q) R1 q1 (fun n ct z => z) (fun z => z) fun d2 g2 v2 H2 B2 _ R2 L2 rp2 q2 => ?_
  cases e : h d d2 with
  | none => unfold bindM at q2; rw [e] at q2; exact q2.elim
  | some d3 =>
    unfold bindM at q2; rw [e] at q2
    refine hr H2 B2 v v2 d d2 d3 _ R2.sub (rp1.le L2) rp2 e fun v3 H3 B3 G rp3 => ?_
    have R3 := R2.grow G
    have L3 : Le B B3 := (L1.trans L2).trans G.b
    cases d3 with
    | bool b =>
      cases rp3
      refine ⟨b, rfl, ?_⟩
      cases b with
      | false => exact q2 _ H3 B3 R3 L3 (.bl false)
      | true =>
        refine hc.run (P := fun x => Fin C N σ B x Q) R3 q2 (fun n ct z => z) (fun z => z) fun d4 g4 v4 H4 B4 _ R4 L4 rp4 q4 => ?_
        obtain ⟨d5, e5, q5⟩ := lift_fin R4 (L3.trans L4) q4
        exact hr' H4 B4 v2 v4 d2 d4 d5 Q R4.sub (rp2.le (G.b.trans L4)) rp4 e5 q5
    | _ => exact q2.elim
end
end DL

set_option Elab.async false
set_option linter.all false
set_option maxRecDepth 100000
set_option maxHeartbeats 4000000
namespace DL
open PySem PySem.Spec L2
open PyProof.Rows hiding St

section
variable {C : Ctx}
/-! ### statements -/
def nextM : M Fl := pureM .next
def seqM (f k : M Fl) : M Fl := bindM f fun x => match x with
  | .next => k
  | x => pureM x
theorem satS_next : SatS C tNext nextM := fun N σ H B g D R q => q σ H B R (.refl _)
theorem satS_seq {t u : TS} {f k : M Fl} (h : SatS C t f) (h2 : SatS C u k) : SatS C (tSeq t u) (seqM f k) := by
  intro N σ H B g D R q
  refine h N σ H B g _ R ?_
  have q : FinS C N B ((f g).bind fun x => match x with | .next => k | x => pureM x) D := q
  cases e : f g with
  | ok x g' =>
    rw [e] at q
    cases x with
    | next => exact fun σ' H' B' R' L => h2 N σ' H' B' g' D R' (FinS.le L q)
    | brk => exact q
    | cont => exact q
    | ret d => exact q
  | exc n ct => rw [e] at q; exact q
  | bad => rw [e] at q; exact q.elim
def dropM {α : Type} (f : M α) : M Fl := bindM f fun _ => nextM
/-- what an expression does as a statement's end, whatever follows -/
theorem Sat.toS {t : TE} {f : M D} (h : Sat C t f) {N : An} {σ : St} {H B : Hp} {g : Sg} {Q : VK} {D : Ends} (R : Rep C N σ H B g) {k : PyData → M Fl} (hf : FinS C N B (bindM f k g) D)
    (hk : ∀ d g' v H' B', f g = .ok d g' → Rep C N σ H' B' g' → Le B B' → Rp C.K B' v d → FinS C N B (k d g') D → Q v H') : t σ H Q :=
  h.run (P := fun x => FinS C N B x D) R hf (fun n ct z cl H' B' => z cl σ H' B') (fun z => z) hk
theorem SatT.toS {t : TT} {f : M Bool} (h : SatT C t f) {N : An} {σ : St} {H B : Hp} {g : Sg} {Q : Bool → Hp → Prop} {D : Ends} (R : Rep C N σ H B g) {k : Bool → M Fl} (hf : FinS C N B (bindM f k g) D)
    (hk : ∀ d g' H' B', f g = .ok d g' → Rep C N σ H' B' g' → Le B B' → FinS C N B (k d g') D → Q d H') : t σ H Q :=
  h.run (P := fun x => FinS C N B x D) R hf (fun n ct z cl H' B' => z cl σ H' B') (fun z => z) hk
theorem SatA.toS {t : TA} {f : M (List D)} (h : SatA C t f) {N : An} {σ : St} {H B : Hp} {g : Sg} {Q : List V → Hp → Prop} {D : Ends} (R : Rep C N σ H B g) {k : List PyData → M Fl} (hf : FinS C N B (bindM f k g) D)
    (hk : ∀ d g' vs H' B', f g = .ok d g' → Rep C N σ H' B' g' → Le B B' → Rps C.K B' vs d → FinS C N B (k d g') D → Q vs H') : t σ H Q :=
  h.run (P := fun x => FinS C N B x D) R hf (fun n ct z cl H' B' => z cl σ H' B') (fun z => z) hk
theorem satS_drop {t : TE} {f : M D} (h : Sat C t f) : SatS C (tDrop t) (dropM f) := by
  intro N σ H B g D R q
  exact h.toS R q fun d g' v H1 B1 _ R1 L1 rp1 q1 => q1 σ H1 B1 R1 L1
def retM (f : M D) : M Fl := bindM f fun d => pureM (.ret d)
theorem satS_ret {t : TE} {f : M D} (h : Sat C t f) : SatS C (tRet t) (retM f) := by
  intro N σ H B g D R q
  exact h.toS R q fun d g' v H1 B1 _ R1 L1 rp1 q1 => q1 v σ H1 B1 R1 L1 rp1
theorem satS_retN : SatS C tRetN (pureM (.ret .none)) := fun N σ H B g D R q => q _ σ H B R (.refl _) .non
theorem satS_brk : SatS C tBreak (pureM .brk) := fun N σ H B g D R q => q σ H B R (.refl _)
theorem satS_cont : SatS C tCont (pureM .cont) := fun N σ H B g D R q => q σ H B R (.refl _)
theorem satS_never : SatS C tNever (fun _ => .bad) := fun N σ H B g D R q => q
theorem satS_if {c : TT} {t u : TS} {fc : M Bool} {f k : M Fl} (hc : SatT C c fc) (h : SatS C t f) (h2 : SatS C u k) : SatS C (tIfS c t u) (ifM fc f k) := by
  intro N σ H B g D R q
  refine hc.toS R q fun d g' H1 B1 _ R1 L1 q1 => ?_
  cases d with
  | true => exact h N σ H1 B1 g' D R1 (FinS.le L1 q1)
  | false => exact h2 N σ H1 B1 g' D R1 (FinS.le L1 q1)

/-! ### targets -/
def FinG (C : Ctx) (N : An) (ts : List Nat) (σ : St) (B : Hp) (r : Res Unit) (Q : St → Hp → Prop) : Prop := match r with
  | .ok _ g => ∀ σ' H' B', Rep C N σ' H' B' g → Le B B' → σ'.length = σ.length → (∀ j, j ∉ ts → σ'[j]? = σ[j]?) → Q σ' H'
  | .exc _ _ => False
  | .bad => False
def SatG (C : Ctx) (ts : List Nat) (t : TG) (k : D → M Unit) : Prop := ∀ N v σ H B g d (Q : St → Hp → Prop), Rep C N σ H B g → Rp C.K B v d → FinG C N ts σ B (k d g) Q → t v σ H Q
def putM (i : Nat) (d : D) : M Unit := fun g => .ok () { g with sl := g.sl.set i (.dat d) }
theorem Rep.set {N : An} {σ : St} {H B : Hp} {g : Sg} (R : Rep C N σ H B g) (i : Nat) {v : V} {d : D} (rp : Rp C.K B v d) : Rep C N (σ.set i (some v)) H B { g with sl := g.sl.set i (.dat d) } := by
  by_cases hi : i < σ.length
  · exact R.put i rfl (by simp) (fun j hj => List.getElem?_set_ne (fun e => hj e.symm)) ⟨v, by rw [List.getElem?_set_self hi]; rfl, rp⟩
  · have e1 : σ.set i (some v) = σ := List.set_eq_of_length_le (by omega)
    have e2 : g.sl.set i (.dat d) = g.sl := List.set_eq_of_length_le (by rw [R.len]; omega)
    rw [e1, e2]; exact R
theorem satG_name {i : Nat} : SatG C [i] (gName i) (putM i) := by
  intro N v σ H B g d Q R rp q
  exact q _ H B (R.set i rp) (.refl _) (by simp) fun j hj => List.getElem?_set_ne fun e => hj (by simp [e])
def SatGs (C : Ctx) (ts : List Nat) (t : TGs) (k : List D → M Unit) : Prop := ∀ N vs σ H B g ds (Q : St → Hp → Prop), Rep C N σ H B g → Rps C.K B vs ds → FinG C N ts σ B (k ds g) Q → t vs σ H Q
def gNilM (ds : List D) : M Unit := match ds with
  | [] => pureM ()
  | _ :: _ => fun _ => .bad
def gConsM (k : D → M Unit) (r : List D → M Unit) (ds : List D) : M Unit := match ds with
  | [] => fun _ => .bad
  | d :: ds => bindM (k d) fun _ => r ds
theorem satGs_nil : SatGs C [] gNil gNilM := by
  intro N vs σ H B g ds Q R rp q
  cases rp with
  | nil => exact ⟨rfl, q σ H B R (.refl _) rfl fun _ _ => rfl⟩
  | cons _ _ => exact q.elim
theorem satGs_cons {ts us : List Nat} {t : TG} {u : TGs} {k : D → M Unit} {r : List D → M Unit} (h : SatG C ts t k) (h2 : SatGs C us u r) : SatGs C (ts ++ us) (gCons t u) (gConsM k r) := by
  intro N vs σ H B g ds Q R rp q
  cases rp with
  | nil => exact q.elim
  | cons rp rps =>
    rename_i v vs d ds
    refine ⟨v, vs, rfl, h N v σ H B g d _ R rp ?_⟩
    have q : FinG C N (ts ++ us) σ B ((k d g).bind fun _ => r ds) Q := q
    cases e : k d g with
    | ok x g' =>
      rw [e] at q
      intro σ1 H1 B1 R1 L1 e1 e2
      refine h2 N vs σ1 H1 B1 g' ds Q R1 (rps.le L1) ?_
      have q : FinG C N (ts ++ us) σ B (r ds g') Q := q
      revert q
      cases r ds g' with
      | ok y g2 => exact fun q σ2 H2 B2 R2 L2 f1 f2 => q σ2 H2 B2 R2 (L1.trans L2) (f1.trans e1) fun j hj => (f2 j fun z => hj (List.mem_append_right _ z)).trans (e2 j fun z => hj (List.mem_append_left _ z))
      | exc n ct => exact id
      | bad => exact id
    | exc n ct => rw [e] at q; exact q.elim
    | bad => rw [e] at q; exact q.elim
def tupG (n : Nat) (k : List D → M Unit) (d : D) : M Unit := match d with
  | .tuple ds => if ds.length = n then k ds else fun _ => .bad
  | _ => fun _ => .bad
theorem satG_tup {n : Nat} {ts : List Nat} {t : TGs} {k : List D → M Unit} (h : SatGs C ts t k) : SatG C ts (gTup C.K n t) (tupG n k) := by
  intro N v σ H B g d Q R rp q
  cases rp with
  | tup hq rps =>
    rename_i a vs ds
    by_cases hl : ds.length = n
    · have q : FinG C N ts σ B ((if ds.length = n then k ds else fun _ => .bad) g) Q := q
      rw [if_pos hl] at q
      exact ⟨a, vs, rfl, SqT.of (R.sub _ _ hq), by rw [rps.length]; exact hl, h N vs σ H B g ds Q R rps q⟩
    · have q : FinG C N ts σ B ((if ds.length = n then k ds else fun _ => .bad) g) Q := q
      rw [if_neg hl] at q
      exact q.elim
  | _ => exact q.elim
/-- a target's store, then something -/
def goG {β : Type} (k : M Unit) (f : M β) : M β := fun g => match k g with
  | .ok _ g' => f g'
  | _ => .bad
theorem SatG.toS {ts : List Nat} {tg : TG} {k : D → M Unit} (h2 : SatG C ts tg k) {N : An} {v : V} {σ : St} {H B : Hp} {g : Sg} {d : PyData} {Q : St → Hp → Prop} {β : Type} {f : M β} {P : Res β → Prop} (hb : ¬ P .bad) (R : Rep C N σ H B g) (rp : Rp C.K B v d) (q : P (goG (k d) f g))
    (hk : ∀ g' σ' H' B', k d g = .ok () g' → Rep C N σ' H' B' g' → Le B B' → σ'.length = σ.length → (∀ j, j ∉ ts → σ'[j]? = σ[j]?) → P (f g') → Q σ' H') : tg v σ H Q := by
  refine h2 N v σ H B g d _ R rp ?_
  unfold goG at q
  cases e : k d g with
  | ok x g2 => rw [e] at q; exact fun σ' H' B' R' L e1 e2 => hk g2 σ' H' B' e R' L e1 e2 q
  | exc n ct => rw [e] at q; exact hb q
  | bad => rw [e] at q; exact hb q
def asgM (f : M D) (k : D → M Unit) : M Fl := bindM f fun d => goG (k d) nextM
theorem satS_asg {te : TE} {tg : TG} {f : M D} {k : D → M Unit} {ts : List Nat} (h : Sat C te f) (h2 : SatG C ts tg k) : SatS C (tAsg te tg) (asgM f k) := by
  intro N σ H B g D R q
  refine h.toS R q fun d g' v H1 B1 _ R1 L1 rp1 q1 => ?_
  exact h2.toS (P := fun x => FinS C N B x D) (fun z => z) R1 rp1 q1 fun g2 σ' H' B' _ R' L _ _ q2 => q2 σ' H' B' R' (L1.trans L)
/-- name = a value that nobody else knows -/
def asgF (f : M (List D)) (i : Nat) : M Fl := bindM f fun xs => fun g => .ok .next { g with sl := g.sl.set i (.own xs) }
theorem Rep.setOwn {N : An} {σ : St} {H B : Hp} {g : Sg} (R : Rep C N σ H B g) (i : Nat) {s : Slot} {p : Addr} (hr : RepSlot C B H s (some (.ref p))) (h0 : N.H0 p = none) (hs : ∀ j : Nat, ownAt g.sl j → σ[j]? ≠ some (some (.ref p))) :
    Rep C N (σ.set i (some (.ref p))) H B { g with sl := g.sl.set i s } := by
  by_cases hi : i < σ.length
  · have eq : ∀ j, j ≠ i → (σ.set i (some (.ref p)))[j]? = σ[j]? := fun j hj => List.getElem?_set_ne fun e => hj e.symm
    refine ⟨by simpa using R.len, fun j s' e => ?_, fun j k q hjk h1 h2 e1 e2 => ?_, R.sub, R.up, R.new, fun j q h1 e1 => ?_, R.keep, R.st⟩
    · rcases set_get e with ⟨e1, e2⟩ | ⟨e1, e2⟩
      · subst e1 e2; rw [List.getElem?_set_self hi]; exact hr
      · rw [eq j e1]; exact R.slots j s' e2
    · rcases ownAt_set h1 with ⟨z, _⟩ | ⟨z1, h1'⟩
      · rw [z, List.getElem?_set_self hi] at e1
        cases e1
        rcases ownAt_set h2 with ⟨z', _⟩ | ⟨z2, h2'⟩
        · exact hjk (z.trans z'.symm)
        · rw [eq k z2] at e2; exact hs k h2' e2
      · rw [eq j z1] at e1
        rcases ownAt_set h2 with ⟨z, _⟩ | ⟨z2, h2'⟩
        · rw [z, List.getElem?_set_self hi] at e2
          cases e2
          exact hs j h1' e1
        · rw [eq k z2] at e2; exact R.sep j k q hjk h1' h2' e1 e2
    · rcases ownAt_set h1 with ⟨z, _⟩ | ⟨z1, h1'⟩
      · rw [z, List.getElem?_set_self hi] at e1
        cases e1
        exact h0
      · rw [eq j z1] at e1; exact R.ownNew j q h1' e1
  · have e1 : σ.set i (some (.ref p)) = σ := List.set_eq_of_length_le (by omega)
    have e2 : g.sl.set i s = g.sl := List.set_eq_of_length_le (by rw [R.len]; omega)
    rw [e1, e2]; exact R
theorem satS_asgF {te : TE} {f : M (List D)} {i : Nat} (h : SatF C te f) : SatS C (tAsg te (gName i)) (asgF f i) := by
  intro N σ H B g D R q
  refine h N σ H B g _ R ?_
  have q : FinS C N B ((f g).bind fun xs => fun g => .ok .next { g with sl := g.sl.set i (.own xs) }) D := q
  cases e : f g with
  | ok xs g' =>
    rw [e] at q
    intro p vs H' B' R' L n hH r h0 hs
    exact q _ H' B' (R'.setOwn i ⟨p, vs, rfl, n, hH, r⟩ h0 hs) L
  | exc n ct => rw [e] at q; exact fun cl H' B' => q cl σ H' B'
  | bad => rw [e] at q; exact q.elim
/-- a, b = x, y with local names -/
def parM (i j : Nat) (f : M (List D)) : M Fl := bindM f fun ds => match ds with
  | [x, y] => fun g => .ok .next { g with sl := (g.sl.set i (.dat x)).set j (.dat y) }
  | _ => fun _ => .bad
theorem satS_par {i j : Nat} {ta : TA} {f : M (List D)} (h : SatA C ta f) : SatS C (tPar i j ta) (parM i j f) := by
  intro N σ H B g D R q
  refine h.toS R q fun ds g' vs H1 B1 _ R1 L1 rp1 q1 => ?_
  cases rp1 with
  | nil => exact q1.elim
  | cons ra rr =>
    cases rr with
    | nil => exact q1.elim
    | cons rb rr =>
      cases rr with
      | nil => exact ⟨_, _, rfl, q1 _ H1 B1 ((R1.set i ra).set j rb) L1⟩
      | cons _ _ => exact q1.elim
/-- .. both lists that nobody else knows, or the first alone -/
def parF (i j : Nat) (f k : M (List D)) : M Fl := bindM f fun xs => bindM k fun ys => fun g => .ok .next { g with sl := (g.sl.set i (.own xs)).set j (.own ys) }
/-- name op= e -/
def augM (i : Nat) (h : D → D → Option D) (f : M D) : M Fl := fun g => match g.sl[i]? with
  | some (.dat x) => bindM f (fun y => bindM (liftO (h x y)) fun z => goG (putM i z) nextM) g
  | _ => .bad
def rip (t : TIp) : R2 := fun x y H Q => t x y H Q
theorem satS_aug {i : Nat} {te : TE} {ti : TIp} {h : D → D → Option D} {f : M D} (hr : V2 C ti h) (he : Sat C te f) : SatS C (tAug i te ti) (augM i h f) := by
  intro N σ H B g D R q
  unfold augM at q
  cases e : g.sl[i]? with
  | none => rw [e] at q; exact q.elim
  | some s =>
    rw [e] at q
    cases s with
    | dat x =>
      obtain ⟨v, e1, rp⟩ := R.slots i _ e
      refine ⟨v, getD_some e1, ?_⟩
      refine he.toS R q fun d g' v2 H1 B1 _ R1 L1 rp1 q1 => ?_
      have q1 : FinS C N B (((liftO (h x d)) g').bind fun z => goG (putM i z) nextM) D := q1
      cases e2 : h x d with
      | none => rw [e2] at q1; exact q1.elim
      | some z =>
        rw [e2] at q1
        exact hr H1 B1 v v2 x d z _ R1.sub (rp.le L1) rp1 e2 fun v3 H3 B3 G rp3 => q1 _ H3 B3 ((R1.grow G).set i rp3) (L1.trans G.b)
    | _ => exact q.elim
/-! ### forgetting -/
def Sg.forget (g : Sg) (is : List Nat) : Sg := { g with sl := is.foldr (fun i l => l.set i .no) g.sl }
theorem Rep.forget {N : An} {σ : St} {H B : Hp} {g : Sg} (R : Rep C N σ H B g) : ∀ is : List Nat, Rep C N σ H B (g.forget is)
  | [] => R
  | i :: is => (R.forget is).put i rfl rfl (fun _ _ => rfl) trivial
def forgetM {α : Type} (is : List Nat) (f : M α) : M α := fun g => match f g with
  | .ok a g' => .ok a (g'.forget is)
  | r => r
theorem satS_forget {t : TS} {f : M Fl} (is : List Nat) (h : SatS C t f) : SatS C t (forgetM is f) := by
  intro N σ H B g D R q
  refine h N σ H B g D R ?_
  unfold forgetM at q
  cases e : f g with
  | ok x g' =>
    rw [e] at q
    cases x with
    | next => exact fun σ' H' B' R' => q σ' H' B' (R'.forget is)
    | brk => exact fun σ' H' B' R' => q σ' H' B' (R'.forget is)
    | cont => exact fun σ' H' B' R' => q σ' H' B' (R'.forget is)
    | ret d => exact fun v σ' H' B' R' => q v σ' H' B' (R'.forget is)
  | exc n ct => rw [e] at q; exact q
  | bad => rw [e] at q; exact q
end

/-! ### what is walked -/
structure Walk (C : Ctx) (J : It) (B : Hp) (xs : List D) : Prop where
  go : ∀ i H, i < xs.length → Le B H → J.go i H
  stop : ∀ H, Le B H → J.stop xs.length H
  yld : ∀ i H x H' B2 d, J.yld i H x H' → xs[i]? = some d → Le B B2 → Le B2 H → ∃ B3, Grow H B2 H' B3 ∧ Rp C.K B3 x d
def FinI (C : Ctx) (N : An) (σ : St) (B : Hp) (r : Res (List D)) (R : It → Hp → Prop) : Prop := match r with
  | .ok xs g => ∀ J H' B', Rep C N σ H' B' g → Le B B' → Walk C J B' xs → R J H'
  | .exc n ct => ∀ cl H' B', Rep C N σ H' B' ⟨σ.map fun _ => Slot.no, ct⟩ → C.mg n = some (.ref cl) → C.E σ (.ref cl) none H'
  | .bad => False
def SatI (C : Ctx) (wi : TI) (f : M (List D)) : Prop := ∀ N σ H B g (R : It → Hp → Prop), Rep C N σ H B g → FinI C N σ B (f g) R → wi σ H R
section
variable {C : Ctx}
/-! ### for -/
def forM (xs : List D) (k : D → M Unit) (body : M Fl) : M Fl := match xs with
  | [] => nextM
  | x :: r => goG (k x) (bindM body fun f => match f with
    | .next => forM r k body
    | .cont => forM r k body
    | .brk => nextM
    | .ret d => pureM (.ret d))
def forS (src : M (List D)) (k : D → M Unit) (body : M Fl) : M Fl := bindM src fun xs => forM xs k body
theorem satS_for {wi : TI} {tg : TG} {tb : TS} {ts : List Nat} {src : M (List D)} {k : D → M Unit} {body : M Fl} (hs : SatI C wi src) (hg : SatG C ts tg k) (hb : SatS C tb body) : SatS C (tFor wi tg tb) (forS src k body) := by
  intro N σ H B g D R q
  refine hs N σ H B g _ R ?_
  have q : FinS C N B ((src g).bind fun xs => forM xs k body) D := q
  cases e : src g with
  | exc n ct => rw [e] at q; exact fun cl H' B' => q cl σ H' B'
  | bad => rw [e] at q; exact q.elim
  | ok xs g1 =>
    rw [e] at q
    intro J H1 B1 R1 L1 W
    refine ⟨fun i m σ' H' => ∃ B' g', i ≤ xs.length ∧ m = xs.length - i ∧ Rep C N σ' H' B' g' ∧ Le B1 B' ∧ FinS C N B' (forM (xs.drop i) k body g') D, ⟨xs.length, B1, g1, Nat.zero_le _, rfl, R1, .refl _, FinS.le L1 q⟩, ?_⟩
    rintro i m σ2 H2 ⟨B2, g2, hi, rfl, R2, L2, q2⟩
    by_cases hlt : i < xs.length
    · have hd : xs.drop i = xs[i] :: xs.drop (i + 1) := List.drop_eq_getElem_cons hlt
      rw [hd] at q2
      refine .inr ⟨W.go i H2 hlt (fun a o z => R2.sub a o (L2 a o z)), fun σ' H' => ∃ B' g', Rep C N σ' H' B' g' ∧ Le B1 B' ∧ FinS C N B' (forM (xs.drop (i + 1)) k body g') D, fun σ' H' ⟨B', g', z1, z2, z3⟩ => ⟨_, Nat.sub_lt_sub_left hlt (Nat.lt_succ_self i), B', g', hlt, rfl, z1, z2, z3⟩, fun x H3 y => ?_⟩
      obtain ⟨B3, G, rp⟩ := W.yld i H2 x H3 B2 xs[i] y (by simp [hlt]) L2 R2.sub
      have R3 := R2.grow G
      have q2 : FinS C N B2 (goG (k xs[i]) (bindM body fun f => match f with | .next => forM (xs.drop (i + 1)) k body | .cont => forM (xs.drop (i + 1)) k body | .brk => nextM | .ret d => pureM (.ret d)) g2) D := q2
      refine hg.toS (P := fun x => FinS C N B2 x D) (fun z => z) R3 rp q2 fun g4 σ4 H4 B4 _ R4 L4 _ _ q4 => ?_
      refine hb N σ4 H4 B4 g4 _ R4 ?_
      have q4 : FinS C N B2 ((body g4).bind fun f => match f with | .next => forM (xs.drop (i + 1)) k body | .cont => forM (xs.drop (i + 1)) k body | .brk => nextM | .ret d => pureM (.ret d)) D := q4
      have L24 : Le B2 B4 := G.b.trans L4
      cases e5 : body g4 with
      | exc n ct => rw [e5] at q4; exact q4
      | bad => rw [e5] at q4; exact q4.elim
      | ok f g5 =>
        rw [e5] at q4
        cases f with
        | next => exact fun σ5 H5 B5 R5 L5 => ⟨B5, g5, R5, (L2.trans L24).trans L5, FinS.le (L24.trans L5) q4⟩
        | cont => exact fun σ5 H5 B5 R5 L5 => ⟨B5, g5, R5, (L2.trans L24).trans L5, FinS.le (L24.trans L5) q4⟩
        | brk => exact fun σ5 H5 B5 R5 L5 => q4 σ5 H5 B5 R5 (L24.trans L5)
        | ret d => exact fun v σ5 H5 B5 R5 L5 rp5 => q4 v σ5 H5 B5 R5 (L24.trans L5) rp5
    · have hi' : i = xs.length := by omega
      subst hi'
      rw [List.drop_length] at q2
      exact .inl ⟨W.stop H2 (fun a o z => R2.sub a o (L2 a o z)), q2 σ2 H2 B2 R2 (.refl _)⟩
/-! ### while -/
def whileM : Nat → M Bool → M Fl → M Fl
  | 0, _, _ => fun _ => .bad
  | n + 1, c, body => bindM c fun b => if b = true then (bindM body fun f => match f with
    | .next => whileM n c body
    | .cont => whileM n c body
    | .brk => nextM
    | .ret d => pureM (.ret d)) else nextM
theorem satS_while {c : TT} {tb : TS} {fc : M Bool} {body : M Fl} (n : Nat) (hc : SatT C c fc) (hb : SatS C tb body) : SatS C (tWhile c tb) (whileM n fc body) := by
  intro N σ H B g D R q
  refine ⟨fun m σ' H' => ∃ B' g', Rep C N σ' H' B' g' ∧ FinS C N B' (whileM m fc body g') D, ⟨n, B, g, R, q⟩, ?_⟩
  rintro m σ1 H1 ⟨B1, g1, R1, q1⟩
  cases m with
  | zero => exact q1.elim
  | succ m =>
    refine hc.toS R1 q1 fun b g2 H2 B2 _ R2 L2 q2 => ?_
    cases b with
    | false => exact q2 σ1 H2 B2 R2 L2
    | true =>
      refine ⟨fun σ' H' => ∃ B' g', Rep C N σ' H' B' g' ∧ FinS C N B' (whileM m fc body g') D, fun σ' H' z => ⟨m, Nat.lt_succ_self m, z⟩, ?_⟩
      refine hb N σ1 H2 B2 g2 _ R2 ?_
      have q2 : FinS C N B1 ((body g2).bind fun f => match f with | .next => whileM m fc body | .cont => whileM m fc body | .brk => nextM | .ret d => pureM (.ret d)) D := q2
      cases e5 : body g2 with
      | exc n ct => rw [e5] at q2; exact q2
      | bad => rw [e5] at q2; exact q2.elim
      | ok f g5 =>
        rw [e5] at q2
        cases f with
        | next => exact fun σ5 H5 B5 R5 L5 => ⟨B5, g5, R5, FinS.le (L2.trans L5) q2⟩
        | cont => exact fun σ5 H5 B5 R5 L5 => ⟨B5, g5, R5, FinS.le (L2.trans L5) q2⟩
        | brk => exact fun σ5 H5 B5 R5 L5 => q2 σ5 H5 B5 R5 (L2.trans L5)
        | ret d => exact fun v σ5 H5 B5 R5 L5 rp5 => q2 v σ5 H5 B5 R5 (L2.trans L5) rp5
end
end DL

set_option Elab.async false
set_option linter.all false
set_option maxRecDepth 100000
set_option maxHeartbeats 4000000
namespace DL
open PySem PySem.Spec L2
open PyProof.Rows hiding St

section
variable {C : Ctx} {N : An} {σ : St} {H B H' B' : Hp} {g : Sg}
theorem Rep.chE (R : Rep C N σ H B g) (E' : St → XK) : Rep { C with E := E' } N σ H B g :=
  ⟨R.len, R.slots, R.sep, R.sub, R.up, R.new, R.ownNew, R.keep, R.st⟩
theorem Rep.unE {E' : St → XK} (R : Rep { C with E := E' } N σ H B g) : Rep C N σ H B g :=
  ⟨R.len, R.slots, R.sep, R.sub, R.up, R.new, R.ownNew, R.keep, R.st⟩
/-- nothing is raised in what follows -/
abbrev Ctx.q (C : Ctx) : Ctx := { C with E := fun _ => E0 }

theorem forget_get : ∀ (is : List Nat) (l : List Slot) (j : Nat) (s : Slot), (is.foldr (fun i l => l.set i Slot.no) l)[j]? = some s → (s = .no ∧ j ∈ is) ∨ (j ∉ is ∧ l[j]? = some s)
  | [], l, j, s, h => .inr ⟨by simp, h⟩
  | i :: is, l, j, s, h => by
    rw [List.foldr_cons] at h
    rcases set_get h with ⟨e, e2⟩ | ⟨e, h⟩
    · exact .inl ⟨e2, by simp [e]⟩
    · rcases forget_get is l j s h with ⟨a, b⟩ | ⟨a, b⟩
      · exact .inl ⟨a, List.mem_cons_of_mem _ b⟩
      · exact .inr ⟨by simp [e, a], b⟩
theorem forget_len (is : List Nat) (l : List Slot) : (is.foldr (fun i l => l.set i Slot.no) l).length = l.length := by
  induction is with
  | nil => rfl
  | cons i is ih => rw [List.foldr_cons, List.length_set, ih]
theorem ownAt_forget {is : List Nat} {j : Nat} (h : ownAt (g.forget is).sl j) : j ∉ is ∧ ownAt g.sl j := by
  obtain ⟨s, h1, h2⟩ := h
  rcases forget_get is g.sl j s h1 with ⟨e, _⟩ | ⟨a, b⟩
  · subst e; cases h2
  · exact ⟨a, s, b, h2⟩
/-- other values at places that are forgotten -/
theorem Rep.other (R : Rep C N σ H B g) {σ' : St} (is : List Nat) (hl : σ'.length = σ.length) (he : ∀ j : Nat, j ∉ is → σ'[j]? = σ[j]?) : Rep C N σ' H B (g.forget is) := by
  refine ⟨by show (is.foldr _ g.sl).length = _; rw [forget_len, hl]; exact R.len, fun j s e => ?_, fun j k p hjk h1 h2 e1 => ?_, R.sub, R.up, R.new, fun j p h1 e1 => ?_, R.keep, R.st⟩
  · rcases forget_get is g.sl j s e with ⟨e1, _⟩ | ⟨a, b⟩
    · subst e1; trivial
    · rw [he j a]; exact R.slots j s b
  · obtain ⟨a, h1⟩ := ownAt_forget h1
    obtain ⟨b, h2⟩ := ownAt_forget h2
    rw [he j a] at e1
    rw [he k b]
    exact R.sep j k p hjk h1 h2 e1
  · obtain ⟨a, h1⟩ := ownAt_forget h1
    rw [he j a] at e1
    exact R.ownNew j p h1 e1
theorem wipe_off {vs : List Nat} {j : Nat} (h : j ∉ vs) : (wipe σ vs)[j]? = σ[j]? := wipe_out h
theorem wipe_eq {σ σ' : St} : ∀ (vs : List Nat), σ'.length = σ.length → (∀ j : Nat, j ∉ vs → σ'[j]? = σ[j]?) → wipe σ' vs = wipe σ vs := by
  intro vs hl he
  apply List.ext_getElem?
  intro j
  by_cases hj : j ∈ vs
  · have key : ∀ (τ : St) (vs : List Nat), j ∈ vs → (wipe τ vs)[j]? = if j < τ.length then some none else none := by
      intro τ vs
      induction vs with
      | nil => intro h; cases h
      | cons v vs ih =>
        intro h
        unfold wipe
        by_cases e : v = j
        · subst e
          by_cases hv : v < τ.length
          · rw [List.getElem?_set_self (by rw [wipe_length]; exact hv), if_pos hv]
          · rw [if_neg hv, List.getElem?_eq_none (by simp [wipe_length]; omega)]
        · rw [List.getElem?_set_ne e]
          exact ih (by rcases List.mem_cons.mp h with z | z
                       · exact absurd z.symm e
                       · exact z)
    rw [key σ' vs hj, key σ vs hj, hl]
  · rw [wipe_off hj, wipe_off hj, he j hj]

/-! ### an object of our own that is kept through -/
theorem Rep.anchor (R : Rep C N σ H B g) {p : Addr} {o : HO} (hH : H p = some o) (hB : B p = none) (h0 : N.H0 p = none) (hs : ∀ j : Nat, ownAt g.sl j → σ[j]? ≠ some (some (.ref p))) : Rep C ⟨upd N.H0 p o, N.B0⟩ σ H B g where
  len := R.len
  slots := R.slots
  sep := R.sep
  sub := R.sub
  up := R.up
  new := fun a u q => by
    rcases R.new a u q with z | z
    · exact .inl z
    · right
      have : a ≠ p := fun e => by rw [e, hB] at q; cases q
      show upd N.H0 p o a = none
      rw [upd_ne this]; exact z
  ownNew := fun j q hj e => by
    have : q ≠ p := fun z => hs j hj (z ▸ e)
    show upd N.H0 p o q = none
    rw [upd_ne this]; exact R.ownNew j q hj e
  keep := fun a u q hc => by
    have q : upd N.H0 p o a = some u := q
    by_cases e : a = p
    · subst e; rw [upd_same] at q; rw [hH]; exact q
    · rw [upd_ne e] at q; exact R.keep a u q hc
  st := fun c hc => by
    obtain ⟨a, b, d, e⟩ := R.st c hc
    refine ⟨a, b, d, ?_⟩
    show upd N.H0 p o c.a ≠ none
    rw [upd_ne (R.stne hc h0)]; exact e
theorem Rep.unanchor {p : Addr} {o : HO} (R : Rep C ⟨upd N.H0 p o, N.B0⟩ σ H B g) (h0 : N.H0 p = none) (hb : N.B0 p = none) (hst : ∀ c, C.st = some c → c.a ≠ p) :
    Rep C N σ H B g ∧ H p = some o ∧ B p = none ∧ ∀ j : Nat, ownAt g.sl j → σ[j]? ≠ some (some (.ref p)) := by
  have le : ∀ a u, N.H0 a = some u → upd N.H0 p o a = some u := fun a u q => by rw [upd_ne (ne_of_none q h0)]; exact q
  have no : ∀ a, upd N.H0 p o a = none → N.H0 a = none := fun a q => by
    cases e : N.H0 a with
    | none => rfl
    | some u => rw [le a u e] at q; cases q
  refine ⟨⟨R.len, R.slots, R.sep, R.sub, R.up, fun a u q => ?_, fun j q hj e => no q (R.ownNew j q hj e), fun a u q hc => R.keep a u (le a u q) hc, fun c hc => ?_⟩, ?_, ?_, fun j hj e => ?_⟩
  · rcases R.new a u q with z | z
    · exact .inl z
    · exact .inr (no a z)
  · obtain ⟨a, b, d, e⟩ := R.st c hc
    refine ⟨a, b, d, ?_⟩
    have e : upd N.H0 p o c.a ≠ none := e
    rw [upd_ne (hst c hc)] at e; exact e
  · exact R.keep p o (show upd N.H0 p o p = some o from upd_same) fun c hc e => hst c hc e.symm
  · cases q : B p with
    | none => rfl
    | some u =>
      rcases R.new p u q with z | z
      · have z : N.B0 p = some u := z
        rw [hb] at z; cases z
      · have z : upd N.H0 p o p = none := z
        rw [upd_same] at z; cases z
  · have z : upd N.H0 p o p = none := R.ownNew j p hj e
    rw [upd_same] at z; cases z
/-- an object of our own is written -/
theorem Rep.mut (R : Rep C N σ H B g) {p : Addr} {o : HO} (hB : B p = none) (h0 : N.H0 p = none) (hs : ∀ j : Nat, ownAt g.sl j → σ[j]? ≠ some (some (.ref p))) : Rep C N σ (upd H p o) B g where
  len := R.len
  slots := fun i s e => by
    have q := R.slots i s e
    have ne : ∀ a, σ[i]?.getD none = some (.ref a) → s.isOwn = true → a ≠ p := fun a h h2 z => hs i ⟨s, e, h2⟩ (by rw [← z]; exact getD_some h)
    cases s with
    | no => trivial
    | dat d => exact q
    | raw v => exact q
    | sta => exact q
    | own xs => obtain ⟨a, vs, e1, n, h, r⟩ := q; exact ⟨a, vs, e1, n, by rw [upd_ne (ne a e1 rfl)]; exact h, r⟩
    | ownT xs => obtain ⟨a, vs, e1, n, h, r⟩ := q; exact ⟨a, vs, e1, n, by rw [upd_ne (ne a e1 rfl)]; exact h, r⟩
    | ownK xs => obtain ⟨a, vs, e1, n, h, r⟩ := q; exact ⟨a, vs, e1, n, by rw [upd_ne (ne a e1 rfl)]; exact h, r⟩
  sep := R.sep
  sub := fun a u q => by
    have : a ≠ p := fun e => by rw [e, hB] at q; cases q
    rw [upd_ne this]; exact R.sub a u q
  up := R.up
  new := R.new
  ownNew := R.ownNew
  keep := fun a u q hc => by
    have : a ≠ p := fun e => by rw [e, h0] at q; cases q
    rw [upd_ne this]; exact R.keep a u q hc
  st := fun c hc => by
    obtain ⟨a, b, d, e⟩ := R.st c hc
    exact ⟨a, by rw [upd_ne (R.stne hc h0)]; exact b, d, e⟩
theorem Rep.b0 (R : Rep C N σ H B g) {p : Addr} (hB : B p = none) : N.B0 p = none := by
  cases e : N.B0 p with
  | none => rfl
  | some o => rw [R.up p o e] at hB; cases hB
end

/-! ### list comprehensions -/
section
variable {C : Ctx}
def afterM {α : Type} (is : List Nat) (f : M α) : M α := fun g => f (g.forget is)
def pushM (acc : List D) (y : D) (f : List D → M (List D)) : M (List D) := if acc.length < sizeLine then f (acc ++ [y]) else fun _ => .bad
/-- what is raised within is out of what we say -/
def calmR {α : Type} (r : Res α) : Res α := match r with
  | .exc _ _ => .bad
  | r => r
def calmM {α : Type} (f : M α) : M α := fun g => calmR (f g)
def lcLoop (k : D → M Unit) (c : M Bool) (e : M D) (vs : List Nat) : List D → List D → M (List D)
  | [], acc => afterM vs (pureM acc)
  | x :: r, acc => goG (k x) (bindM (calmM c) fun b => if b = true then (bindM (calmM e) fun y => pushM acc y fun acc' => afterM vs (lcLoop k c e vs r acc')) else afterM vs (lcLoop k c e vs r acc))
def lcM (src : M (List D)) (k : D → M Unit) (c : M Bool) (e : M D) (vs : List Nat) : M (List D) := bindM src fun xs => afterM vs (lcLoop k c e vs xs [])
theorem Rep.wipe {N : An} {σ : St} {H B : Hp} {g : Sg} (R : Rep C N σ H B g) (vs : List Nat) : Rep C N (L2.wipe σ vs) H B (g.forget vs) := R.other vs (wipe_length σ vs) fun j hj => wipe_off hj
/-- a part of a turn, while the new list stands -/
theorem Sat.turn {t : TE} {f : M D} (h : Sat C.q t f) {N : An} {σ : St} {H B : Hp} {g : Sg} {p : Addr} {o : HO} (R : Rep C N σ H B g) (hH : H p = some o) (hB : B p = none) (h0 : N.H0 p = none) (hs : ∀ j : Nat, ownAt g.sl j → σ[j]? ≠ some (some (.ref p)))
    {β : Type} {k : D → M β} {P : Res β → Prop} (hb : ¬ P .bad) {Q : VK} (hf : P (bindM (calmM f) k g))
    (hk : ∀ d g' v H' B', Rep C N σ H' B' g' → Le B B' → Rp C.K B' v d → H' p = some o → B' p = none → (∀ j : Nat, ownAt g'.sl j → σ[j]? ≠ some (some (.ref p))) → P (k d g') → Q v H') : t σ H Q := by
  refine h ⟨upd N.H0 p o, N.B0⟩ σ H B g Q ((R.anchor hH hB h0 hs).chE _) ?_
  have hf : P ((calmR (f g)).bind k) := hf
  cases e : f g with
  | ok d g' =>
    rw [e] at hf
    intro v H' B' R' L rp
    obtain ⟨R2, e1, e2, e3⟩ := R'.unE.unanchor h0 (R.b0 hB) fun c hc => R.stne hc h0
    exact hk d g' v H' B' R2 L rp e1 e2 e3 hf
  | exc n ct => rw [e] at hf; exact (hb hf).elim
  | bad => rw [e] at hf; exact (hb hf).elim
theorem SatT.turn {t : TT} {f : M Bool} (h : SatT C.q t f) {N : An} {σ : St} {H B : Hp} {g : Sg} {p : Addr} {o : HO} (R : Rep C N σ H B g) (hH : H p = some o) (hB : B p = none) (h0 : N.H0 p = none) (hs : ∀ j : Nat, ownAt g.sl j → σ[j]? ≠ some (some (.ref p)))
    {β : Type} {k : Bool → M β} {P : Res β → Prop} (hb : ¬ P .bad) {Q : Bool → Hp → Prop} (hf : P (bindM (calmM f) k g))
    (hk : ∀ d g' H' B', Rep C N σ H' B' g' → Le B B' → H' p = some o → B' p = none → (∀ j : Nat, ownAt g'.sl j → σ[j]? ≠ some (some (.ref p))) → P (k d g') → Q d H') : t σ H Q := by
  refine h ⟨upd N.H0 p o, N.B0⟩ σ H B g Q ((R.anchor hH hB h0 hs).chE _) ?_
  have hf : P ((calmR (f g)).bind k) := hf
  cases e : f g with
  | ok d g' =>
    rw [e] at hf
    intro H' B' R' L
    obtain ⟨R2, e1, e2, e3⟩ := R'.unE.unanchor h0 (R.b0 hB) fun c hc => R.stne hc h0
    exact hk d g' H' B' R2 L e1 e2 e3 hf
  | exc n ct => rw [e] at hf; exact (hb hf).elim
  | bad => rw [e] at hf; exact (hb hf).elim
theorem SatG.turn {ts : List Nat} {tg : TG} {k : D → M Unit} (h : SatG C.q ts tg k) {N : An} {v : V} {d : D} {σ : St} {H B : Hp} {g : Sg} {p : Addr} {o : HO} (R : Rep C N σ H B g) (rp : Rp C.K B v d) (hH : H p = some o) (hB : B p = none) (h0 : N.H0 p = none) (hs : ∀ j : Nat, ownAt g.sl j → σ[j]? ≠ some (some (.ref p)))
    {β : Type} {f : M β} {P : Res β → Prop} (hb : ¬ P .bad) {Q : St → Hp → Prop} (hf : P (goG (k d) f g))
    (hk : ∀ g' σ' H' B', Rep C N σ' H' B' g' → Le B B' → σ'.length = σ.length → (∀ j, j ∉ ts → σ'[j]? = σ[j]?) → H' p = some o → B' p = none → (∀ j : Nat, ownAt g'.sl j → σ'[j]? ≠ some (some (.ref p))) → P (f g') → Q σ' H') : tg v σ H Q := by
  refine h ⟨upd N.H0 p o, N.B0⟩ v σ H B g d _ ((R.anchor hH hB h0 hs).chE _) rp ?_
  unfold goG at hf
  cases e : k d g with
  | ok x g' =>
    rw [e] at hf
    intro σ' H' B' R' L l1 l2
    obtain ⟨R2, e1, e2, e3⟩ := R'.unE.unanchor h0 (R.b0 hB) fun c hc => R.stne hc h0
    exact hk g' σ' H' B' R2 L l1 l2 e1 e2 e3 hf
  | exc n ct => rw [e] at hf; exact (hb hf).elim
  | bad => rw [e] at hf; exact (hb hf).elim
/-- a comprehension's state between two turns, the new list at p -/
structure LcS (C : Ctx) (N : An) (τ : St) (p : Addr) (B1 : Hp) (H B : Hp) (g : Sg) (acc : List D) : Prop where
  rep : Rep C N τ H B g
  le : Le B1 B
  own : ∀ j : Nat, ownAt g.sl j → τ[j]? ≠ some (some (.ref p))
  no : B p = none
  lst : ∃ av, H p = some (.lst av) ∧ Rps C.K B av acc
theorem LcS.back {N : An} {τ σ' : St} {p : Addr} {B1 H B : Hp} {g : Sg} {acc : List D} (h : LcS C N τ p B1 H B g acc) (vs : List Nat) (hl : σ'.length = τ.length) (he : ∀ j : Nat, j ∉ vs → σ'[j]? = τ[j]?) : LcS C N σ' p B1 H B (g.forget vs) acc :=
  ⟨h.rep.other vs hl he, h.le, fun j hj => by
    obtain ⟨a, b⟩ := ownAt_forget hj
    rw [he j a]; exact h.own j b, h.no, h.lst⟩
theorem LcS.fin {N : An} {τ σ : St} {p : Addr} {B1 H B B0 : Hp} {g : Sg} {acc : List D} {vs : List Nat} {Q : VK} (h : LcS C N τ p B1 H B g acc) (hl : σ.length = τ.length) (he : ∀ j : Nat, j ∉ vs → σ[j]? = τ[j]?) (h0 : N.H0 p = none) (L : Le B0 B1)
    (q : FinF C N σ B0 (afterM vs (pureM acc) g) Q) : Q (.ref p) H := by
  obtain ⟨R, L', o, n, av, hH, rp⟩ := h.back vs hl he
  exact q p av H B R (L.trans L') n hH rp h0 o
theorem LcS.push {N : An} {τ : St} {p : Addr} {B1 H B : Hp} {g : Sg} {acc : List D} {av : List V} {y : V} {d : D} (R : Rep C N τ H B g) (L : Le B1 B) (o : ∀ j : Nat, ownAt g.sl j → τ[j]? ≠ some (some (.ref p))) (n : B p = none) (h0 : N.H0 p = none) (ra : Rps C.K B av acc) (ry : Rp C.K B y d) :
    LcS C N τ p B1 (upd H p (.lst (av ++ [y]))) B g (acc ++ [d]) :=
  ⟨R.mut n h0 o, L, o, n, _, upd_same, ra.append (.one ry)⟩
theorem satF_lc {wi : TI} {tg : TG} {tt : TT} {te : TE} {vs ts : List Nat} {src : M (List D)} {k : D → M Unit} {c : M Bool} {e : M D} (hs : SatI C wi src) (hg : SatG C.q ts tg k) (hc : SatT C.q tt c) (he : Sat C.q te e) (hv : ∀ j, j ∈ ts → j ∈ vs) :
    SatF C (tLc wi tg tt te vs) (lcM src k c e vs) := by
  intro N σ H B g Q R q
  refine hs N σ H B g _ R ?_
  have q : FinF C N σ B ((src g).bind fun xs => afterM vs (lcLoop k c e vs xs [])) Q := q
  cases es : src g with
  | exc n ct => rw [es] at q; exact q
  | bad => rw [es] at q; exact q.elim
  | ok xs g1 =>
    rw [es] at q
    intro J H1 B1 R1 L1 W p hp
    have h0 : N.H0 p = none := R1.fresh hp
    have wl : (wipe σ vs).length = σ.length := wipe_length σ vs
    have S0 : LcS C N (wipe σ vs) p B1 (upd H1 p (.lst [])) B1 (g1.forget vs) [] := by
      have R2 := (R1.newl (o := .lst []) hp).wipe vs
      refine ⟨R2, .refl _, fun j hj => ?_, R1.sub_none hp, [], upd_same, .nil⟩
      obtain ⟨a, b⟩ := ownAt_forget hj
      rw [wipe_off a]; exact R1.free_own hp j b
    refine ⟨fun i m H' => ∃ B' g' acc, i ≤ xs.length ∧ m = xs.length - i ∧ LcS C N (wipe σ vs) p B1 H' B' g' acc ∧ FinF C N σ B (lcLoop k c e vs (xs.drop i) acc g') Q, ⟨xs.length, B1, g1.forget vs, [], Nat.zero_le _, rfl, S0, q⟩, ?_⟩
    rintro i m H2 ⟨B2, g2, acc, hi, rfl, S, q2⟩
    obtain ⟨R2, L2, o2, n2, av, hH2, ra⟩ := id S
    by_cases hlt : i < xs.length
    · have hd : xs.drop i = xs[i] :: xs.drop (i + 1) := List.drop_eq_getElem_cons hlt
      rw [hd] at q2
      refine .inr ⟨W.go i H2 hlt (fun a o z => R2.sub a o (L2 a o z)), fun H' => ∃ B' g' acc, LcS C N (wipe σ vs) p B1 H' B' g' acc ∧ FinF C N σ B (lcLoop k c e vs (xs.drop (i + 1)) acc g') Q, fun H' ⟨B', g', acc', z1, z2⟩ => ⟨_, Nat.sub_lt_sub_left hlt (Nat.lt_succ_self i), B', g', acc', hlt, rfl, z1, z2⟩, fun x H3 y => ?_⟩
      obtain ⟨B3, G, rp⟩ := W.yld i H2 x H3 B2 xs[i] y (by simp [hlt]) L2 R2.sub
      have R3 := R2.grow G
      have hH3 : H3 p = some (.lst av) := G.h _ _ hH2
      have n3 : B3 p = none := G.apart n2 hH2
      refine hg.turn (P := fun x => FinF C N σ B x Q) R3 rp hH3 n3 h0 o2 (fun z => z) q2 fun g4 σ4 H4 B4 R4 L4 l4 e4 hH4 n4 o4 q4 => ?_
      have off : ∀ j : Nat, j ∉ vs → σ4[j]? = σ[j]? := fun j hj => (e4 j fun z => hj (hv j z)).trans (wipe_off hj)
      have len4 : σ4.length = σ.length := l4.trans wl
      refine ⟨wipe_eq vs len4 off, ?_⟩
      have off' : ∀ j : Nat, j ∉ vs → (wipe σ vs)[j]? = σ4[j]? := fun j hj => (wipe_off hj).trans (off j hj).symm
      have len4' : (wipe σ vs).length = σ4.length := wl.trans len4.symm
      refine hc.turn (P := fun x => FinF C N σ B x Q) R4 hH4 n4 h0 o4 (fun z => z) q4 fun b g5 H5 B5 R5 L5 hH5 n5 o5 q5 => ?_
      have LL : Le B2 B5 := (G.b.trans L4).trans L5
      cases b with
      | false =>
        exact ⟨B5, _, acc, (LcS.mk R5 (L2.trans LL) o5 n5 ⟨av, hH5, ra.le LL⟩).back vs len4' off', q5⟩
      | true =>
        refine he.turn (P := fun x => FinF C N σ B x Q) R5 hH5 n5 h0 o5 (fun z => z) q5 fun d g6 v H6 B6 R6 L6 rp6 hH6 n6 o6 q6 => ?_
        unfold pushM at q6
        by_cases hz : acc.length < sizeLine
        · rw [if_pos hz] at q6
          refine ⟨av, hH6, by rw [ra.length]; exact hz, B6, _, acc ++ [d], ?_, q6⟩
          exact (LcS.push R6 ((L2.trans LL).trans L6) o6 n6 h0 (ra.le (LL.trans L6)) rp6).back vs len4' off'
        · rw [if_neg hz] at q6; exact q6.elim
    · have hi' : i = xs.length := by omega
      subst hi'
      rw [List.drop_length] at q2
      exact .inl ⟨W.stop H2 (fun a o z => R2.sub a o (L2 a o z)), S.fin wl.symm (fun j hj => (wipe_off hj).symm) h0 L1 q2⟩
/-! ### .. with two walks -/
def lcIn (k1 : D → M Unit) (c1 : M Bool) (e : M D) (vs1 : List Nat) (next : List D → M (List D)) : List D → List D → M (List D)
  | [], acc => next acc
  | x :: r, acc => goG (k1 x) (bindM (calmM c1) fun b => if b = true then (bindM (calmM e) fun y => pushM acc y fun acc' => afterM vs1 (lcIn k1 c1 e vs1 next r acc')) else afterM vs1 (lcIn k1 c1 e vs1 next r acc))
def lc2Loop (k : D → M Unit) (c : M Bool) (src1 : M (List D)) (k1 : D → M Unit) (c1 : M Bool) (e : M D) (vs vs1 : List Nat) : List D → List D → M (List D)
  | [], acc => afterM vs (pureM acc)
  | x :: r, acc => goG (k x) (bindM (calmM c) fun b => if b = true then (bindM (calmM src1) fun ys => afterM vs1 (lcIn k1 c1 e vs1 (fun acc' => afterM vs (lc2Loop k c src1 k1 c1 e vs vs1 r acc')) ys acc)) else afterM vs (lc2Loop k c src1 k1 c1 e vs vs1 r acc))
def lc2M (src : M (List D)) (k : D → M Unit) (c : M Bool) (src1 : M (List D)) (k1 : D → M Unit) (c1 : M Bool) (e : M D) (vs vs1 : List Nat) : M (List D) := bindM src fun xs => afterM vs (lc2Loop k c src1 k1 c1 e vs vs1 xs [])
theorem SatI.turn {t : TI} {f : M (List D)} (h : SatI C.q t f) {N : An} {σ : St} {H B : Hp} {g : Sg} {p : Addr} {o : HO} (R : Rep C N σ H B g) (hH : H p = some o) (hB : B p = none) (h0 : N.H0 p = none) (hs : ∀ j : Nat, ownAt g.sl j → σ[j]? ≠ some (some (.ref p)))
    {β : Type} {k : List D → M β} {P : Res β → Prop} (hb : ¬ P .bad) {Q : It → Hp → Prop} (hf : P (bindM (calmM f) k g))
    (hk : ∀ xs g' J H' B', Rep C N σ H' B' g' → Le B B' → Walk C J B' xs → H' p = some o → B' p = none → (∀ j : Nat, ownAt g'.sl j → σ[j]? ≠ some (some (.ref p))) → P (k xs g') → Q J H') : t σ H Q := by
  refine h ⟨upd N.H0 p o, N.B0⟩ σ H B g Q ((R.anchor hH hB h0 hs).chE _) ?_
  have hf : P ((calmR (f g)).bind k) := hf
  cases e : f g with
  | ok d g' =>
    rw [e] at hf
    intro J H' B' R' L W
    obtain ⟨R2, e1, e2, e3⟩ := R'.unE.unanchor h0 (R.b0 hB) fun c hc => R.stne hc h0
    exact hk d g' J H' B' R2 L ⟨W.go, W.stop, W.yld⟩ e1 e2 e3 hf
  | exc n ct => rw [e] at hf; exact (hb hf).elim
  | bad => rw [e] at hf; exact (hb hf).elim
theorem satF_lc2 {wi wi1 : TI} {tg tg1 : TG} {tt tt1 : TT} {te : TE} {vs ts vs1 ts1 : List Nat} {src src1 : M (List D)} {k k1 : D → M Unit} {c c1 : M Bool} {e : M D} (hs : SatI C wi src) (hg : SatG C.q ts tg k) (hc : SatT C.q tt c) (hs1 : SatI C.q wi1 src1) (hg1 : SatG C.q ts1 tg1 k1) (hc1 : SatT C.q tt1 c1) (he : Sat C.q te e)
    (hv : ∀ j, j ∈ ts → j ∈ vs) (hv1 : ∀ j, j ∈ ts1 → j ∈ vs1) (hvv : ∀ j, j ∈ vs1 → j ∈ vs) :
    SatF C (tLc2 wi tg tt wi1 tg1 tt1 te vs vs1) (lc2M src k c src1 k1 c1 e vs vs1) := by
  intro N σ H B g Q R q
  refine hs N σ H B g _ R ?_
  have q : FinF C N σ B ((src g).bind fun xs => afterM vs (lc2Loop k c src1 k1 c1 e vs vs1 xs [])) Q := q
  cases es : src g with
  | exc n ct => rw [es] at q; exact q
  | bad => rw [es] at q; exact q.elim
  | ok xs g1 =>
    rw [es] at q
    intro J H1 B1 R1 L1 W p hp
    have h0 : N.H0 p = none := R1.fresh hp
    have wl : (wipe σ vs).length = σ.length := wipe_length σ vs
    have S0 : LcS C N (wipe σ vs) p B1 (upd H1 p (.lst [])) B1 (g1.forget vs) [] := by
      have R2 := (R1.newl (o := .lst []) hp).wipe vs
      refine ⟨R2, .refl _, fun j hj => ?_, R1.sub_none hp, [], upd_same, .nil⟩
      obtain ⟨a, b⟩ := ownAt_forget hj
      rw [wipe_off a]; exact R1.free_own hp j b
    refine ⟨fun i m H' => ∃ B' g' acc, i ≤ xs.length ∧ m = xs.length - i ∧ LcS C N (wipe σ vs) p B1 H' B' g' acc ∧ FinF C N σ B (lc2Loop k c src1 k1 c1 e vs vs1 (xs.drop i) acc g') Q, ⟨xs.length, B1, g1.forget vs, [], Nat.zero_le _, rfl, S0, q⟩, ?_⟩
    rintro i m H2 ⟨B2, g2, acc, hi, rfl, S, q2⟩
    obtain ⟨R2, L2, o2, n2, av, hH2, ra⟩ := id S
    by_cases hlt : i < xs.length
    · have hd : xs.drop i = xs[i] :: xs.drop (i + 1) := List.drop_eq_getElem_cons hlt
      rw [hd] at q2
      generalize hnext : (fun acc' => afterM vs (lc2Loop k c src1 k1 c1 e vs vs1 (xs.drop (i + 1)) acc')) = next at q2
      refine .inr ⟨W.go i H2 hlt (fun a o z => R2.sub a o (L2 a o z)), fun H' => ∃ B' g' acc, LcS C N (wipe σ vs) p B1 H' B' (g'.forget vs) acc ∧ FinF C N σ B (next acc g') Q, fun H' ⟨B', g', acc', z1, z2⟩ => ⟨_, Nat.sub_lt_sub_left hlt (Nat.lt_succ_self i), B', g'.forget vs, acc', hlt, rfl, z1, by rw [← hnext] at z2; exact z2⟩, fun x H3 y => ?_⟩
      obtain ⟨B3, G, rp⟩ := W.yld i H2 x H3 B2 xs[i] y (by simp [hlt]) L2 R2.sub
      have R3 := R2.grow G
      have hH3 : H3 p = some (.lst av) := G.h _ _ hH2
      have n3 : B3 p = none := G.apart n2 hH2
      have q2 : FinF C N σ B (goG (k xs[i]) (bindM (calmM c) fun b => if b = true then (bindM (calmM src1) fun ys => afterM vs1 (lcIn k1 c1 e vs1 next ys acc)) else next acc) g2) Q := by
        rw [← hnext]; exact q2
      refine hg.turn (P := fun x => FinF C N σ B x Q) R3 rp hH3 n3 h0 o2 (fun z => z) q2 fun g4 σ4 H4 B4 R4 L4 l4 e4 hH4 n4 o4 q4 => ?_
      have off : ∀ j : Nat, j ∉ vs → σ4[j]? = σ[j]? := fun j hj => (e4 j fun z => hj (hv j z)).trans (wipe_off hj)
      have len4 : σ4.length = σ.length := l4.trans wl
      refine ⟨wipe_eq vs len4 off, ?_⟩
      have off' : ∀ j : Nat, j ∉ vs → (wipe σ vs)[j]? = σ4[j]? := fun j hj => (wipe_off hj).trans (off j hj).symm
      have len4' : (wipe σ vs).length = σ4.length := wl.trans len4.symm
      refine hc.turn (P := fun x => FinF C N σ B x Q) R4 hH4 n4 h0 o4 (fun z => z) q4 fun b g5 H5 B5 R5 L5 hH5 n5 o5 q5 => ?_
      have LL : Le B2 B5 := (G.b.trans L4).trans L5
      cases b with
      | false =>
        exact ⟨B5, g5, acc, (LcS.mk R5 (L2.trans LL) o5 n5 ⟨av, hH5, ra.le LL⟩).back vs len4' off', q5⟩
      | true =>
        refine hs1.turn (P := fun x => FinF C N σ B x Q) R5 hH5 n5 h0 o5 (fun z => z) q5 fun ys g6 J1 H6 B6 R6 L6 W1 hH6 n6 o6 q6 => ?_
        have L16 : Le B1 B6 := (L2.trans LL).trans L6
        have wl1 : (wipe σ4 vs1).length = σ4.length := wipe_length σ4 vs1
        have S6 : LcS C N (wipe σ4 vs1) p B1 H6 B6 (g6.forget vs1) acc := (LcS.mk R6 L16 o6 n6 ⟨av, hH6, ra.le (LL.trans L6)⟩).back vs1 wl1 fun j hj => wipe_off hj
        refine ⟨fun j m H' => ∃ B' g' acc, j ≤ ys.length ∧ m = ys.length - j ∧ LcS C N (wipe σ4 vs1) p B1 H' B' g' acc ∧ Le B6 B' ∧ FinF C N σ B (lcIn k1 c1 e vs1 next (ys.drop j) acc g') Q, ⟨ys.length, B6, g6.forget vs1, acc, Nat.zero_le _, rfl, S6, .refl _, q6⟩, ?_⟩
        rintro j m H7 ⟨B7, g7, acc7, hj, rfl, S7, L67, q7⟩
        obtain ⟨R7, L7, o7, n7, av7, hH7, ra7⟩ := id S7
        by_cases hlt7 : j < ys.length
        · have hd7 : ys.drop j = ys[j] :: ys.drop (j + 1) := List.drop_eq_getElem_cons hlt7
          rw [hd7] at q7
          refine .inr ⟨W1.go j H7 hlt7 (fun a o z => R7.sub a o (L67 a o z)), fun H' => ∃ B' g' acc, LcS C N (wipe σ4 vs1) p B1 H' B' g' acc ∧ Le B6 B' ∧ FinF C N σ B (lcIn k1 c1 e vs1 next (ys.drop (j + 1)) acc g') Q, fun H' ⟨B', g', acc', z1, z2, z3⟩ => ⟨_, Nat.sub_lt_sub_left hlt7 (Nat.lt_succ_self j), B', g', acc', hlt7, rfl, z1, z2, z3⟩, fun x8 H8 y8 => ?_⟩
          obtain ⟨B8, G8, rp8⟩ := W1.yld j H7 x8 H8 B7 ys[j] y8 (by simp [hlt7]) L67 R7.sub
          have R8 := R7.grow G8
          have hH8 : H8 p = some (.lst av7) := G8.h _ _ hH7
          have n8 : B8 p = none := G8.apart n7 hH7
          refine hg1.turn (P := fun x => FinF C N σ B x Q) R8 rp8 hH8 n8 h0 o7 (fun z => z) q7 fun g9 σ9 H9 B9 R9 L9 l9 e9 hH9 n9 o9 q9 => ?_
          have off9 : ∀ j : Nat, j ∉ vs1 → σ9[j]? = σ4[j]? := fun j hj => (e9 j fun z => hj (hv1 j z)).trans (wipe_off hj)
          have len9 : σ9.length = σ4.length := l9.trans wl1
          refine ⟨wipe_eq vs1 len9 off9, ?_⟩
          have off9' : ∀ j : Nat, j ∉ vs1 → (wipe σ4 vs1)[j]? = σ9[j]? := fun j hj => (wipe_off hj).trans (off9 j hj).symm
          have len9' : (wipe σ4 vs1).length = σ9.length := wl1.trans len9.symm
          refine hc1.turn (P := fun x => FinF C N σ B x Q) R9 hH9 n9 h0 o9 (fun z => z) q9 fun b ga Ha Ba Ra La hHa na oa qa => ?_
          have L7a : Le B7 Ba := (G8.b.trans L9).trans La
          cases b with
          | false =>
            exact ⟨Ba, _, acc7, (LcS.mk Ra (L7.trans L7a) oa na ⟨av7, hHa, ra7.le L7a⟩).back vs1 len9' off9', L67.trans L7a, qa⟩
          | true =>
            refine he.turn (P := fun x => FinF C N σ B x Q) Ra hHa na h0 oa (fun z => z) qa fun d gb v Hb Bb Rb Lb rpb hHb nb ob qb => ?_
            unfold pushM at qb
            by_cases hz : acc7.length < sizeLine
            · rw [if_pos hz] at qb
              refine ⟨av7, hHb, by rw [ra7.length]; exact hz, Bb, _, acc7 ++ [d], ?_, (L67.trans L7a).trans Lb, qb⟩
              exact (LcS.push Rb ((L7.trans L7a).trans Lb) ob nb h0 (ra7.le (L7a.trans Lb)) rpb).back vs1 len9' off9'
            · rw [if_neg hz] at qb; exact qb.elim
        · have hj' : j = ys.length := by omega
          subst hj'
          rw [List.drop_length] at q7
          refine .inl ⟨W1.stop H7 (fun a o z => R7.sub a o (L67 a o z)), B7, g7, acc7, S7.back vs ?_ ?_, q7⟩
          · rw [wl1, len4']
          · intro j hj
            rw [wipe_off (σ := σ4) (fun z => hj (hvv j z))]; exact off' j hj
    · have hi' : i = xs.length := by omega
      subst hi'
      rw [List.drop_length] at q2
      exact .inl ⟨W.stop H2 (fun a o z => R2.sub a o (L2 a o z)), S.fin wl.symm (fun j hj => (wipe_off hj).symm) h0 L1 q2⟩
end
end DL

set_option Elab.async false
set_option linter.all false
set_option maxRecDepth 100000
set_option maxHeartbeats 4000000
/-! DL5: what is walked: lists and tuples and texts, range, enumerate and zip of lists and tuples in any mix -/
namespace PySem
open Sem (wp)
open AutoSeq1 (wpAny_loadPart')
set_option maxHeartbeats 1000000 in
theorem meets_enumerate_newB1 {v : Value} {o : Obj} {H : Heap → Prop} (B : Begins v o H) :
    Meets (Builtin.«enumerate.__new__» ⟨[.type "enumerate", v], []⟩) (fun _ R s => H s.heap ∧
      R (.ok (.ret (.ref (s.heap.push o).objs.size))) { s with heap := (s.heap.push o).push { cls := .type "enumerate", data := .fields #[.none, .bool false, .ref s.heap.objs.size, rawInt 0, .none, .none] } }) :=
  .of_wp fun prog w A R s h => by
    obtain ⟨hp, g, d, tk, os⟩ := s; obtain ⟨h1, h⟩ := h
    have hsub := sub_enumerate
    have q1 : ∀ {A' : Around} {E : Value → Shared → Prop} {Q : Value → Shared → Prop}, Q (.ref hp.objs.size) ⟨hp.push o, g, d, tk, os⟩ → wpAny (model prog w) A' (pyIter v) Q E ⟨hp, g, d, tk, os⟩ :=
      fun q => B.iter prog w _ _ ⟨hp, g, d, tk, os⟩ _ h1 q
    wp_walk using q1
    refine wpAny_stack_any fun st => wpAny_pure ?_
    split
    · rename_i c _ _ _ _ _
      cases (c == Value.type "enumerate")
      · wp_walk using q1
        exact ⟨_, rfl, h⟩
      · wp_walk using q1
        exact ⟨_, rfl, h⟩
    · wp_walk using q1
      exact ⟨_, rfl, h⟩
section
variable {prog : Program} {w : World} {A : Around} {E : Value → Shared → Prop} {s : Shared}
theorem enum_begins1 {v : Value} {o : Obj} {H : Heap → Prop} {Q : Value → Shared → Prop} (B : Begins v o H) (h1 : H s.heap)
    (h : ∀ h', IsEnum h' (s.heap.objs.size + 1) s.heap.objs.size 0 .none → h'.get? s.heap.objs.size = some o → h'.objs.size = s.heap.objs.size + 2 →
      (∀ b o, s.heap.get? b = some o → h'.get? b = some o) → Q (.ref (s.heap.objs.size + 1)) { s with heap := h' }) :
    wpAny (model prog w) A (call (.type "enumerate") [v]) Q E s := by
  refine callType_new F.called_enumerate (by decide) (F.typeCall_enumerate_1 _) (F.newCall_enumerate_1 _) (fun obj => F.args_object_init_2 obj _) F.entry_enumerate_new
    (meets_enumerate_newB1 B) ⟨h1, ?_⟩
  have hz : (s.heap.push o).objs.size = s.heap.objs.size + 1 := Heap.size_push ..
  show _ ∧ _
  rw [hz]
  have he : IsEnum ((s.heap.push o).push { cls := .type "enumerate", data := .fields #[.none, .bool false, .ref s.heap.objs.size, rawInt 0, .none, .none] }) (s.heap.objs.size + 1) s.heap.objs.size 0 .none := by
    have := Heap.get?_push_size (s.heap.push o) (o := { cls := .type "enumerate", data := .fields #[.none, .bool false, .ref s.heap.objs.size, rawInt 0, .none, .none] }) rfl
    rw [hz] at this; exact this
  refine ⟨⟨_, he, rfl⟩, h _ he (Heap.get?_push_of_some _ (Heap.get?_push_size _ B.free)) (by rw [Heap.size_push, hz]) fun b o x => Heap.get?_push_of_some _ (Heap.get?_push_of_some _ x)⟩
end
end PySem

namespace DL
open PySem PySem.Spec L2
open PyProof.Rows hiding St

/-! ### a list or a tuple as a source -/
inductive Sq where
  | L (a : Addr)
  | T (a : Addr)
def Sq.a : Sq → Addr
  | .L a => a
  | .T a => a
def Sq.st (K : PySem.W.Frag) (H : Hp) : Sq → List V → Prop
  | .L a, xs => SqL K H a xs
  | .T a, xs => SqT K H a xs
def Sq.iter (h : Heap) (it : Addr) (i : Nat) : Sq → Prop
  | .L a => h.IsListIter it a i
  | .T a => h.IsTupleIter it a i
def Sq.raw (h : Heap) (items : Array Value) : Sq → Prop
  | .L a => h.IsList a items
  | .T a => h.IsTuple a items
def Sq.itO : Sq → Obj
  | .L a => { cls := .type "list_iterator", data := .fields #[.ref a, .int 0 0] }
  | .T a => { cls := .type "tuple_iterator", data := .fields #[.ref a, .int 0 0] }
theorem Sq.at {q : Sq} {h h' : Heap} {it : Addr} {i : Nat} (x : q.iter h it i) (k : ∀ o, h.get? it = some o → h'.get? it = some o) : q.iter h' it i := by
  cases q with
  | L a => exact Heap.IsListIter.at x k
  | T a => exact Heap.IsTupleIter.at x k
theorem Sq.there {q : Sq} {h : Heap} {it : Addr} {i : Nat} (x : q.iter h it i) : ∃ o, h.get? it = some o ∧ ∀ v, o.data ≠ .cell v := by
  cases q with
  | L a => obtain ⟨o, e, _, d⟩ := x; exact ⟨o, e, fun v z => by rw [d] at z; cases z⟩
  | T a => obtain ⟨o, e, _, d⟩ := x; exact ⟨o, e, fun v z => by rw [d] at z; cases z⟩
theorem Sq.draws {P : Program} {w : World} {A : Around} (hh : A.handled = none) (q : Sq) (it : Addr) (hne : q.a ≠ it) (items : Array Value) :
    Draws P w A it [it, q.a] items.size (fun i v => items[i]? = some v) (fun i h => q.iter h it i ∧ q.raw h items) := by
  cases q with
  | L a => exact Draws.list hh it a hne items
  | T a => exact Draws.tuple hh it a hne items
theorem Sq.get {X : Cx} {pins : List (Addr × Obj)} {σ : St} {H : Hp} {s : Shared} (I : Inv X pins σ H s) {q : Sq} {xs : List V} (h : q.st X.K H xs) : ∃ its : List Value, Vals xs its ∧ q.raw s.heap its.toArray ∧ q.a < s.heap.objs.size := by
  cases q with
  | L a =>
    obtain ⟨its, rv, p, _⟩ := I.list h
    exact ⟨its, rv, p.isList, p.lt⟩
  | T a =>
    obtain ⟨its, rv, p, _⟩ := I.tuple h
    exact ⟨its, rv, p, p.lt⟩
theorem Sq.inj {X : Cx} {pins : List (Addr × Obj)} {σ : St} {H : Hp} {s : Shared} (I : Inv X pins σ H s) {q : Sq} {xs ys : List V} (h : q.st X.K H xs) (h' : q.st X.K H ys) : xs = ys := by
  cases q with
  | L a => exact I.list_inj h h'
  | T a => exact I.tuple_inj h h'
theorem Sq.begins (q : Sq) (items : Array Value) : Begins (.ref q.a) q.itO fun h => q.raw h items := by
  cases q with
  | L a => exact begins_list a items
  | T a => exact begins_tuple a items
theorem Sq.iter0 {q : Sq} {h : Heap} {it : Addr} (e : h.get? it = some q.itO) : q.iter h it 0 := by
  cases q with
  | L a => exact ⟨_, e, rfl, rfl⟩
  | T a => exact ⟨_, e, rfl, rfl⟩
theorem Sq.le {K : PySem.W.Frag} {B H : Hp} (L : Le B H) {q : Sq} {xs : List V} (h : q.st K B xs) : q.st K H xs := by
  cases q with
  | L a => exact L.sqL h
  | T a => exact L.sqT h

/-! ### enumerate -/
def ItE (K : PySem.W.Frag) (q : Sq) : It :=
  ⟨fun i H => ∃ (xs : List V) (x : V), q.st K H xs ∧ xs[i]? = some x, fun i H v H' => ∃ T x, v = .ref T ∧ H T = none ∧ H' = upd H T (.tup [.int (i : Nat), x]) ∧ ∀ xs, q.st K H xs → xs[i]? = some x, fun i H => ∃ xs : List V, q.st K H xs ∧ xs.length = i⟩
theorem turn_enumX {P : Program} {w : World} {K : PySem.W.Frag} {elts : List Expr} {kk : Nat} {tpos : Pos} (q : Sq) (e it : Addr) (h1 : e ≠ it) (h2 : e ≠ q.a) (h3 : q.a ≠ it) :
    Turn P w K (.Tuple elts kk tpos) (ItE K q) [e, it] e (fun i h => (∃ old, IsEnum h e it (0 + ((i : Nat) : Int)) old) ∧ q.iter h it i) where
  mem := by simp
  obj := fun i h st b hb => by
    obtain ⟨⟨old, he⟩, hi⟩ := st
    have e' : b = e ∨ b = it := by simpa using hb
    rcases e' with z | z
    · rw [z]; exact ⟨_, he, fun v q => nomatch q⟩
    · rw [z]; exact Sq.there hi
  keep := fun i h h' st k => let ⟨⟨old, he⟩, hi⟩ := st; ⟨⟨old, k e (by simp) _ he⟩, Sq.at hi fun o q => k it (by simp) o q⟩
  item := by
    intro X hP hw hK hc i pins s σ H E I hf st hg
    subst hP hw hK
    obtain ⟨⟨old, he⟩, hit⟩ := st
    obtain ⟨xs, x, hq, hx⟩ := hg
    obtain ⟨its, rv, p, hlt⟩ := Sq.get I hq
    obtain ⟨u, hu, ru⟩ := rv.get hx
    have hi : i < its.toArray.size := by
      have := (List.getElem?_eq_some_iff.mp hu).1
      simpa using this
    have G := GoesN.enumFrom (elts := elts) (x1 := kk) (pos := tpos) 0 (q.draws (P := X.prog) (w := X.w) (A := X.A.in1) (I.ok.hd hc) it h3 its.toArray) e h1 (by simp [h1, h2]) (by simp)
    refine thn (G.goes i s (fun v s2 => ∃ x H', Inv X pins σ H' s2 ∧ RelV x v ∧ (ItE X.K q).yld i H x H' ∧ ((∃ old, IsEnum s2.heap e it (0 + (((i + 1 : Nat) : Nat) : Int)) old) ∧ q.iter s2.heap it (i + 1)) ∧ ∀ b ∈ [e, it], H' b = none) E hi ⟨⟨old, he⟩, hit, p⟩ ?_) fun r s1 ⟨v, er, hv⟩ => ⟨v, er, thn hv fun _ s2 hq => hq⟩
    rintro v h' tk ⟨T, t, x', rfl, hT, hx', ht⟩ ⟨he', hit', _⟩ hk _
    have ex : x' = u := by
      have hx' : its.toArray[i]? = some x' := hx'
      have hu' : its.toArray[i]? = some u := by simpa using hu
      rw [hu'] at hx'; exact (Option.some.inj hx').symm
    subst ex
    have hn : H T = none := I.hok.fresh hT
    have e0 : (0 + (i : Int)) = ((i : Nat) : Int) := by omega
    have new : ObjOk X.prog X.w (upd H T (.tup [.int (i : Nat), x])) h' T (.tup [.int (i : Nat), x]) :=
      ⟨by show 2 ≤ sizeLine; decide, [.int (0 + (i : Int)) t, x'], .cons ⟨t, by rw [e0]⟩ (.cons ru .nil), ht⟩
    have I1 : Inv X pins σ (upd H T (.tup [.int (i : Nat), x])) { s with heap := h', toks := tk } := I.turnedNew (ch := [e, it]) (fun b ob hb z => hk b ob hb z) hf hT new
    refine ⟨.ref T, _, I1, rfl, ⟨T, x, rfl, hn, rfl, fun ys hy => by rw [Sq.inj I hy hq]; exact hx⟩, ⟨he', hit'⟩, fun b hb => ?_⟩
    have hb' : b < s.heap.objs.size := by
      have e' : b = e ∨ b = it := by simpa using hb
      rcases e' with z | z
      · rw [z]; exact Heap.lt_size he
      · obtain ⟨o, eo, _⟩ := Sq.there hit
        rw [z]; exact Heap.lt_size eo
    rw [upd_ne (Nat.ne_of_lt (Nat.lt_of_lt_of_le hb' hT))]
    exact (hf b hb).1
  done := by
    intro X hP hw hK hc i pins s σ H E I hf st hg
    subst hP hw hK
    obtain ⟨⟨old, he⟩, hit⟩ := st
    obtain ⟨xs, hq, hx⟩ := hg
    obtain ⟨its, rv, p, hlt⟩ := Sq.get I hq
    have hl := rv.length
    have en : i = its.toArray.size := by simp; omega
    have G := GoesN.enumFrom (elts := elts) (x1 := kk) (pos := tpos) 0 (q.draws (P := X.prog) (w := X.w) (A := X.A.in1) (I.ok.hd hc) it h3 its.toArray) e h1 (by simp [h1, h2]) (by simp)
    refine G.stops s (fun s' => Inv X pins σ H s') E (by rw [← en]; exact ⟨⟨old, he⟩, hit, p⟩) fun h' tk hk _ => I.turnedL (ch := [e, it]) hk hf
  self := fun A i s Q E st h => let ⟨⟨_, he⟩, _⟩ := st; wpAny_pyIter_enum he h
def iEnumX (K : PySem.W.Frag) (ta : TA) : TI := fun σ H R => ta σ H fun vs H1 => ∃ q xs, vs = [.ref (Sq.a q)] ∧ q.st K H1 xs ∧ R (ItE K q) H1
theorem pi_enumX {X : Cx} {e : Expr} {ta : TA} {p pos tpos : Pos} {elts : List Expr} {kk : Nat} (hg : Gl X "enumerate") (hm : X.mg "enumerate" = none) (ha : PA X [e] ta) (hs : starEach [e] X.env = [(false, eval e X.env)] := by rfl) :
    PI X (.Tuple elts kk tpos) (.Call (.Name "enumerate" p) [e] [] pos) (iEnumX X.K ta) := by
  refine ⟨fun pins s σ H R I h => ?_⟩
  refine Call_ (ld_blt I hg hm boot_enumerate (PyProof.Rows.callWith_type1 (thn (ha.run pos pins s σ H _ I h) fun us s1 ⟨vs, H1, I1, r1, q1⟩ => ?_) hs rfl))
  obtain ⟨q, xs, ex, hq, hR⟩ := q1
  subst ex
  cases r1 with
  | cons r rr =>
    cases rr
    cases r
    obtain ⟨its, rv, p', hlt⟩ := Sq.get I1 hq
    refine enum_begins1 (q.begins its.toArray) p' fun h' he hit hsz hk => wpAny_pyIter_enum he ?_
    have I2 : Inv X pins σ H1 { s1 with heap := h' } := I1.kept (t' := s1.toks) hk
    have ne1 : (s1.heap.objs.size + 1 : Nat) ≠ s1.heap.objs.size := Nat.succ_ne_self _
    refine ⟨s1.heap.objs.size + 1, [s1.heap.objs.size + 1, s1.heap.objs.size], _, _, H1, rfl, I2, turn_enumX q (s1.heap.objs.size + 1) s1.heap.objs.size ne1 (Nat.ne_of_gt (Nat.lt_succ_of_lt hlt)) (Nat.ne_of_lt hlt), ⟨⟨.none, he⟩, Sq.iter0 hit⟩, fun b hb => ?_, hR⟩
    have e' : b = s1.heap.objs.size + 1 ∨ b = s1.heap.objs.size := by simpa using hb
    have hle : s1.heap.objs.size ≤ b := by
      rcases e' with z | z
      · rw [z]; exact Nat.le_add_right _ _
      · rw [z]; exact Nat.le_refl _
    exact I1.fpOk hle (I1.hok.fresh hle)

/-! ### zip -/
def ItZ (K : PySem.W.Frag) (q1 q2 : Sq) : It :=
  ⟨fun i H => ∃ (xs ys : List V) (x y : V), q1.st K H xs ∧ q2.st K H ys ∧ xs[i]? = some x ∧ ys[i]? = some y,
    fun i H v H' => ∃ T x y, v = .ref T ∧ H T = none ∧ H' = upd H T (.tup [x, y]) ∧ (∀ xs, q1.st K H xs → xs[i]? = some x) ∧ ∀ ys, q2.st K H ys → ys[i]? = some y,
    fun i H => ∃ xs ys : List V, q1.st K H xs ∧ q2.st K H ys ∧ min xs.length ys.length = i⟩
theorem turn_zipX {P : Program} {w : World} {K : PySem.W.Frag} {elts : List Expr} {kk : Nat} {tpos : Pos} (q1 q2 : Sq) (z TI TO i1 i2 : Addr) (S : ZipSep2 z TI TO i1 i2 [i1, q1.a] [i2, q2.a]) (n1 : q1.a ≠ i1) (n2 : q2.a ≠ i2) :
    Turn P w K (.Tuple elts kk tpos) (ItZ K q1 q2) [z, TI, TO, i1, i2] z (fun i h => IsZip h z TI TO .none ∧ IsTupOf2 h TI (.ref i1) (.ref i2) ∧ (∃ a1 a2, IsTupOf2 h TO a1 a2) ∧ q1.iter h i1 i ∧ q2.iter h i2 i) where
  mem := by simp
  obj := fun i h st c hc => by
    obtain ⟨hz, hTI, ⟨x, y, hTO⟩, h1, h2⟩ := st
    have e' : c = z ∨ c = TI ∨ c = TO ∨ c = i1 ∨ c = i2 := by simpa using hc
    rcases e' with q | q | q | q | q
    · rw [q]; exact ⟨_, hz, fun v q => nomatch q⟩
    · rw [q]; exact ⟨_, hTI, fun v q => nomatch q⟩
    · rw [q]; exact ⟨_, hTO, fun v q => nomatch q⟩
    · rw [q]; exact Sq.there h1
    · rw [q]; exact Sq.there h2
  keep := fun i h h' st k => by
    obtain ⟨hz, hTI, ⟨x, y, hTO⟩, h1, h2⟩ := st
    exact ⟨k z (by simp) _ hz, k TI (by simp) _ hTI, ⟨x, y, k TO (by simp) _ hTO⟩, Sq.at h1 fun o q => k i1 (by simp) o q, Sq.at h2 fun o q => k i2 (by simp) o q⟩
  item := by
    intro X hP hw hK hc i pins s σ H E I hf st hg
    subst hP hw hK
    obtain ⟨hz, hTI, ⟨x0, y0, hTO⟩, h1, h2⟩ := st
    obtain ⟨xs, ys, x, y, hqx, hqy, hx, hy⟩ := hg
    obtain ⟨its, rv, p, _⟩ := Sq.get I hqx
    obtain ⟨its2, rv2, p2, _⟩ := Sq.get I hqy
    obtain ⟨u, hu, ru⟩ := rv.get hx
    obtain ⟨u2, hu2, ru2⟩ := rv2.get hy
    have hi : i < min its.toArray.size its2.toArray.size := by
      have l1 := (List.getElem?_eq_some_iff.mp hu).1
      have l2 := (List.getElem?_eq_some_iff.mp hu2).1
      simp only [List.size_toArray]
      omega
    have G := GoesN.zip2 (elts := elts) (x1 := kk) (pos := tpos) S (q1.draws (P := X.prog) (w := X.w) (A := X.A.in1) (I.ok.hd hc) i1 n1 its.toArray) (q2.draws (P := X.prog) (w := X.w) (A := X.A.in1) (I.ok.hd hc) i2 n2 its2.toArray)
    refine thn (G.goes i s (fun v s2 => ∃ x H', Inv X pins σ H' s2 ∧ RelV x v ∧ (ItZ X.K q1 q2).yld i H x H' ∧ (IsZip s2.heap z TI TO .none ∧ IsTupOf2 s2.heap TI (.ref i1) (.ref i2) ∧ (∃ a1 a2, IsTupOf2 s2.heap TO a1 a2) ∧ q1.iter s2.heap i1 (i + 1) ∧ q2.iter s2.heap i2 (i + 1)) ∧ ∀ b ∈ [z, TI, TO, i1, i2], H' b = none) E hi ⟨hz, hTI, ⟨x0, y0, hTO⟩, ⟨h1, p⟩, h2, p2⟩ ?_) fun r s1 ⟨v, er, hv⟩ => ⟨v, er, thn hv fun _ s2 hq => hq⟩
    rintro v h' tk ⟨T, x', y', rfl, hT, hx', hy', ht⟩ ⟨hz', hTI', hTO', ⟨h1', _⟩, h2', _⟩ hk _
    have ex : x' = u := by
      have hx' : its.toArray[i]? = some x' := hx'
      have hu' : its.toArray[i]? = some u := by simpa using hu
      rw [hu'] at hx'; exact (Option.some.inj hx').symm
    have ey : y' = u2 := by
      have hy' : its2.toArray[i]? = some y' := hy'
      have hu' : its2.toArray[i]? = some u2 := by simpa using hu2
      rw [hu'] at hy'; exact (Option.some.inj hy').symm
    subst ex ey
    have hn : H T = none := I.hok.fresh hT
    have new : ObjOk X.prog X.w (upd H T (.tup [x, y])) h' T (.tup [x, y]) := ⟨by show 2 ≤ sizeLine; decide, [x', y'], .cons ru (.cons ru2 .nil), ht⟩
    have I1 : Inv X pins σ (upd H T (.tup [x, y])) { s with heap := h', toks := tk } := I.turnedNew (ch := [z, TI, TO, i1, i2]) (fun b ob hb q => hk b ob (fun hm => hb (by
      have e' : b = z ∨ b = TO ∨ b = i1 ∨ b = i2 := by simpa using hm
      rcases e' with q | q | q | q <;> simp [q])) q) hf hT new
    refine ⟨.ref T, _, I1, rfl, ⟨T, x, y, rfl, hn, rfl, fun ys hy => by rw [Sq.inj I hy hqx]; exact hx, fun l hl => by rw [Sq.inj I hl hqy]; exact hy⟩, ⟨hz', hTI', hTO', h1', h2'⟩, fun b hb => ?_⟩
    have hb' : b < s.heap.objs.size := by
      have e' : b = z ∨ b = TI ∨ b = TO ∨ b = i1 ∨ b = i2 := by simpa using hb
      rcases e' with q | q | q | q | q
      · rw [q]; exact Heap.lt_size hz
      · rw [q]; exact Heap.lt_size hTI
      · rw [q]; exact Heap.lt_size hTO
      · obtain ⟨o, eo, _⟩ := Sq.there h1; rw [q]; exact Heap.lt_size eo
      · obtain ⟨o, eo, _⟩ := Sq.there h2; rw [q]; exact Heap.lt_size eo
    rw [upd_ne (Nat.ne_of_lt (Nat.lt_of_lt_of_le hb' hT))]
    exact (hf b hb).1
  done := by
    intro X hP hw hK hc i pins s σ H E I hf st hg
    subst hP hw hK
    obtain ⟨hz, hTI, ⟨x0, y0, hTO⟩, h1, h2⟩ := st
    obtain ⟨xs, ys, hqx, hqy, hend⟩ := hg
    obtain ⟨its, rv, p, _⟩ := Sq.get I hqx
    obtain ⟨its2, rv2, p2, _⟩ := Sq.get I hqy
    have l1 := rv.length
    have l2 := rv2.length
    have en : i = min its.toArray.size its2.toArray.size := by simp only [List.size_toArray]; omega
    have G := GoesN.zip2 (elts := elts) (x1 := kk) (pos := tpos) S (q1.draws (P := X.prog) (w := X.w) (A := X.A.in1) (I.ok.hd hc) i1 n1 its.toArray) (q2.draws (P := X.prog) (w := X.w) (A := X.A.in1) (I.ok.hd hc) i2 n2 its2.toArray)
    refine G.stops s (fun s' => Inv X pins σ H s') E (by rw [← en]; exact ⟨hz, hTI, ⟨x0, y0, hTO⟩, ⟨h1, p⟩, h2, p2⟩) fun h' tk hk _ => I.turnedL (ch := [z, TI, TO, i1, i2]) (fun b o hb q => hk b o (fun hm => hb (by
      have e' : b = z ∨ b = TO ∨ b = i1 ∨ b = i2 := by simpa using hm
      rcases e' with q | q | q | q <;> simp [q])) q) hf
  self := fun A i s Q E st h => wpAny_pyIter_zip st.1 h
def iZipX (K : PySem.W.Frag) (ta : TA) : TI := fun σ H R => ta σ H fun vs H1 => ∃ q1 q2 xs ys, vs = [.ref (Sq.a q1), .ref (Sq.a q2)] ∧ q1.st K H1 xs ∧ q2.st K H1 ys ∧ R (ItZ K q1 q2) H1
theorem pi_zipX {X : Cx} {e e2 : Expr} {ta : TA} {p pos tpos : Pos} {elts : List Expr} {kk : Nat} (hg : Gl X "zip") (hm : X.mg "zip" = none) (ha : PA X [e, e2] ta)
    (hs : starEach [e, e2] X.env = (false, eval e X.env) :: starEach [e2] X.env := by rfl) (hpl : (backTo pos (starEach [e2] X.env)).any (·.1) = false := by rfl) :
    PI X (.Tuple elts kk tpos) (.Call (.Name "zip" p) [e, e2] [] pos) (iZipX X.K ta) := by
  refine ⟨fun pins s σ H R I h => ?_⟩
  refine Call_ (ld_blt I hg hm PyProof.Rows.boot_zip (PyProof.Rows.callWith_type1 (thn (ha.run pos pins s σ H _ I h) fun us s1 ⟨vs, H1, I1, r1, q1⟩ => ?_) hs hpl))
  obtain ⟨qa, qb, xs, ys, ex, hqx, hqy, hR⟩ := q1
  subst ex
  cases r1 with
  | cons r rr =>
    cases rr with
    | cons r' rr =>
      cases rr
      cases r
      cases r'
      obtain ⟨its, rv, p1, lt1⟩ := Sq.get I1 hqx
      obtain ⟨its2, rv2, p2, lt2⟩ := Sq.get I1 hqy
      refine zip_begins2 (qa.begins its.toArray) (qb.begins its2.toArray) p1 p2 fun h' hz hTI hTO h1 h2 hsz hk => wpAny_pyIter_zip hz ?_
      have I2 : Inv X pins σ H1 { s1 with heap := h' } := I1.kept (t' := s1.toks) hk
      refine ⟨s1.heap.objs.size + 4, [s1.heap.objs.size + 4, s1.heap.objs.size + 2, s1.heap.objs.size + 3, s1.heap.objs.size, s1.heap.objs.size + 1], _, _, H1, rfl, I2, turn_zipX qa qb _ _ _ _ _ (zip_sep2 (fp1 := [qa.a]) (fp2 := [qb.a]) (fun b hb => by rw [List.mem_singleton.mp hb]; exact lt1) (fun b hb => by rw [List.mem_singleton.mp hb]; exact lt2)) (Nat.ne_of_lt lt1) (Nat.ne_of_lt (Nat.lt_succ_of_lt lt2)), ⟨hz, hTI, ⟨_, _, hTO⟩, Sq.iter0 h1, Sq.iter0 h2⟩, fun c hcm => ?_, hR⟩
      have e' : c = s1.heap.objs.size + 4 ∨ c = s1.heap.objs.size + 2 ∨ c = s1.heap.objs.size + 3 ∨ c = s1.heap.objs.size ∨ c = s1.heap.objs.size + 1 := by simpa using hcm
      have hle : s1.heap.objs.size ≤ c := by
        rcases e' with z | z | z | z | z
        · rw [z]; exact Nat.le_add_right _ _
        · rw [z]; exact Nat.le_add_right _ _
        · rw [z]; exact Nat.le_add_right _ _
        · rw [z]; exact Nat.le_refl _
        · rw [z]; exact Nat.le_add_right _ _
      exact I1.fpOk hle (I1.hok.fresh hle)

/-! ### a list, a tuple, a text -/
def iAny (K : PySem.W.Frag) (tl : TE) : TI := fun σ H R => tl σ H fun x H1 => (∃ a, x = .ref a ∧ (((∃ xs, SqL K H1 a xs) ∧ R (Itl K a) H1) ∨ ((∃ xs, SqT K H1 a xs) ∧ R (Itt K a) H1))) ∨ ∃ z, x = .str z ∧ R (Its z) H1
theorem pi_any {X : Cx} {tg l : Expr} {tl : TE} (hl : PE X l tl) : PI X tg l (iAny X.K tl) := by
  refine ⟨fun pins s σ H R I h => ?_⟩
  refine thn (hl.run pins s σ H _ I h) fun v s1 ⟨x, H1, I1, r1, q1⟩ => ?_
  rcases q1 with ⟨a, e, ⟨⟨xs, hq⟩, q⟩ | ⟨⟨xs, hq⟩, q⟩⟩ | ⟨z, e, q⟩
  · subst e
    cases r1
    obtain ⟨its, rv, p, hz⟩ := I1.list hq
    refine wpAny_pyIter_list p.isList ?_
    exact pi_one (tk := s1.toks) I1 _ (turn_list a _) ⟨_, Heap.get?_push_size _ rfl, rfl, rfl⟩ q
  · subst e
    cases r1
    obtain ⟨its, rv, p, hz⟩ := I1.tuple hq
    refine wpAny_pyIter_tuple (show s1.heap.IsTuple a its.toArray from p) ?_
    exact pi_one (tk := s1.toks) I1 _ (turn_tuple a _) ⟨_, Heap.get?_push_size _ rfl, rfl, rfl⟩ q
  · subst e
    obtain ⟨t, rfl⟩ := r1
    cases ha : z.cps.all (· < 128)
    · exact wpAny_pyIter_wide ha (pi_one (tk := s1.toks) I1 _ (turn_str _ z t "str_iterator" (.inr rfl)) ⟨_, Heap.get?_push_size _ rfl, rfl, rfl⟩ q)
    · exact wpAny_pyIter_ascii ha (pi_one (tk := s1.toks) I1 _ (turn_str _ z t "str_ascii_iterator" (.inl rfl)) ⟨_, Heap.get?_push_size _ rfl, rfl, rfl⟩ q)
end DL

set_option Elab.async false
set_option linter.all false
set_option maxRecDepth 100000
set_option maxHeartbeats 4000000
namespace DL
open PySem PySem.Spec L2
open PyProof.Rows hiding St

section
variable {C : Ctx}
/-! ### sources -/
def charsD (z : Str) : List D := z.cps.toList.map fun c => .str ⟨#[c]⟩
def itemsD : D → Option (List D)
  | .list xs => some xs
  | .tuple xs => some xs
  | .str z => some (charsD z)
  | _ => none
def srcM (f : M D) : M (List D) := bindM f fun d => liftO (itemsD d)
theorem walk_list {B : Hp} {a : Addr} {vs : List V} {ds : List D} (h : SqL C.K B a vs) (r : Rps C.K B vs ds) : Walk C (Itl C.K a) B ds where
  go := fun i H hi L => by
    have hv : i < vs.length := by rw [r.length]; exact hi
    exact ⟨vs, vs[i], L.sqL h, by simp [hv]⟩
  stop := fun H L => ⟨vs, L.sqL h, Nat.le_of_eq r.length⟩
  yld := fun i H x H' B2 d y e L L2 => by
    obtain ⟨rfl, f⟩ := y
    obtain ⟨v, e2, rp⟩ := r.get' e
    have := f vs (L2.sqL (L.sqL h))
    rw [e2] at this
    cases this
    exact ⟨B2, .refl, rp.le L⟩
theorem walk_tup {B : Hp} {a : Addr} {vs : List V} {ds : List D} (h : SqT C.K B a vs) (r : Rps C.K B vs ds) : Walk C (Itt C.K a) B ds where
  go := fun i H hi L => by
    have hv : i < vs.length := by rw [r.length]; exact hi
    exact ⟨vs, vs[i], L.sqT h, by simp [hv]⟩
  stop := fun H L => ⟨vs, L.sqT h, Nat.le_of_eq r.length⟩
  yld := fun i H x H' B2 d y e L L2 => by
    obtain ⟨rfl, f⟩ := y
    obtain ⟨v, e2, rp⟩ := r.get' e
    have := f vs (L2.sqT (L.sqT h))
    rw [e2] at this
    cases this
    exact ⟨B2, .refl, rp.le L⟩
theorem walk_str {B : Hp} {z : Str} : Walk C (Its z) B (charsD z) where
  go := fun i H hi _ => by
    unfold charsD at hi
    rw [List.length_map, Array.length_toList] at hi
    exact hi
  stop := fun H _ => by
    unfold charsD
    rw [List.length_map, Array.length_toList]
    exact Nat.le_refl _
  yld := fun i H x H' B2 d y e L L2 => by
    obtain ⟨rfl, c, hc, rfl⟩ := y
    unfold charsD at e
    rw [List.getElem?_map, Array.getElem?_toList, hc] at e
    cases e
    exact ⟨B2, .refl, .str _⟩
theorem satI_any {tl : TE} {f : M D} (h : Sat C tl f) : SatI C (iAny C.K tl) (srcM f) := by
  intro N σ H B g R Rr q
  refine h.run (P := fun x => FinI C N σ B x R) Rr q (fun n ct z => z) (fun z => z) fun d g' v H1 B1 _ R1 L1 rp1 q1 => ?_
  cases rp1 with
  | lst hb r => exact .inl ⟨_, rfl, .inl ⟨⟨_, SqL.of (R1.sub _ _ hb)⟩, q1 _ H1 B1 R1 L1 (walk_list (SqL.of hb) r)⟩⟩
  | tup hb r => exact .inl ⟨_, rfl, .inr ⟨⟨_, SqT.of (R1.sub _ _ hb)⟩, q1 _ H1 B1 R1 L1 (walk_tup (SqT.of hb) r)⟩⟩
  | str z => exact .inr ⟨z, rfl, q1 _ H1 B1 R1 L1 walk_str⟩
  | _ => exact q1.elim
def rangeL (lo : Int) (n : Nat) : List D := (List.range n).map fun i => PyData.int (lo + (i : Nat))
def rng1 (ds : List D) : Option (List D) := match ds with
  | [.int j] => if -(2 ^ 62) ≤ j ∧ j < 2 ^ 62 then some (rangeL 0 j.toNat) else none
  | _ => none
def rng2 (ds : List D) : Option (List D) := match ds with
  | [.int i, .int j] => if -(2 ^ 62) ≤ i ∧ i < 2 ^ 62 ∧ -(2 ^ 62) ≤ j ∧ j < 2 ^ 62 then some (rangeL i (j - i).toNat) else none
  | _ => none
def srcA (h : List D → Option (List D)) (f : M (List D)) : M (List D) := bindM f fun ds => liftO (h ds)
theorem walk_range {B : Hp} {lo : Int} {n : Nat} : Walk C (Itr lo n) B (rangeL lo n) where
  go := fun i H hi _ => by
    unfold rangeL at hi
    rw [List.length_map, List.length_range] at hi
    exact hi
  stop := fun H _ => by
    unfold rangeL
    rw [List.length_map, List.length_range]
    exact Nat.le_refl _
  yld := fun i H x H' B2 d y e L L2 => by
    obtain ⟨rfl, rfl⟩ := y
    unfold rangeL at e
    rw [List.getElem?_map] at e
    by_cases hi : i < n
    · rw [List.getElem?_range hi] at e
      cases e
      exact ⟨B2, .refl, .int _⟩
    · rw [List.getElem?_eq_none (by simpa using hi)] at e; cases e
theorem rng1_some {ds xs : List D} (h : rng1 ds = some xs) : ∃ j, ds = [.int j] ∧ -(2 ^ 62) ≤ j ∧ j < 2 ^ 62 ∧ xs = rangeL 0 j.toNat := by
  unfold rng1 at h
  split at h
  · split at h
    · rename_i j hb; cases h; exact ⟨j, rfl, hb.1, hb.2, rfl⟩
    · cases h
  · cases h
theorem rng2_some {ds xs : List D} (h : rng2 ds = some xs) : ∃ i j, ds = [.int i, .int j] ∧ (-(2 ^ 62) ≤ i ∧ i < 2 ^ 62 ∧ -(2 ^ 62) ≤ j ∧ j < 2 ^ 62) ∧ xs = rangeL i (j - i).toNat := by
  unfold rng2 at h
  split at h
  · split at h
    · rename_i i j hb; cases h; exact ⟨i, j, rfl, hb, rfl⟩
    · cases h
  · cases h
theorem Rps.one_of {B : Hp} {vs : List V} {d : D} (r : Rps C.K B vs [d]) : ∃ v, vs = [v] ∧ Rp C.K B v d := by
  cases r with
  | cons a b => cases b; exact ⟨_, rfl, a⟩
theorem Rps.two_of {B : Hp} {vs : List V} {d e : D} (r : Rps C.K B vs [d, e]) : ∃ v w, vs = [v, w] ∧ Rp C.K B v d ∧ Rp C.K B w e := by
  cases r with
  | cons a b =>
    obtain ⟨w, rfl, c⟩ := b.one_of
    exact ⟨_, _, rfl, a, c⟩
theorem finI_lift {N : An} {σ : St} {B : Hp} {o : Option (List D)} {g : Sg} {R : It → Hp → Prop} (h : FinI C N σ B (liftO o g) R) : ∃ xs, o = some xs ∧ FinI C N σ B (.ok xs g) R := by
  cases o with
  | none => exact h.elim
  | some xs => exact ⟨xs, rfl, h⟩
theorem satI_rng1 {ta : TA} {f : M (List D)} (h : SatA C ta f) : SatI C (iRng1 ta) (srcA rng1 f) := by
  intro N σ H B g R Rr q
  refine h.run (P := fun x => FinI C N σ B x R) Rr q (fun n ct z => z) (fun z => z) fun ds g' vs H1 B1 _ R1 L1 rp1 q1 => ?_
  obtain ⟨xs, e, q1⟩ := finI_lift q1
  obtain ⟨j, rfl, h1, h2, rfl⟩ := rng1_some e
  obtain ⟨v, rfl, r⟩ := rp1.one_of
  cases r
  exact ⟨j, rfl, h1, h2, q1 _ H1 B1 R1 L1 walk_range⟩
theorem satI_rng2 {ta : TA} {f : M (List D)} (h : SatA C ta f) : SatI C (iRng2 ta) (srcA rng2 f) := by
  intro N σ H B g R Rr q
  refine h.run (P := fun x => FinI C N σ B x R) Rr q (fun n ct z => z) (fun z => z) fun ds g' vs H1 B1 _ R1 L1 rp1 q1 => ?_
  obtain ⟨xs, e, q1⟩ := finI_lift q1
  obtain ⟨i, j, rfl, h1, rfl⟩ := rng2_some e
  obtain ⟨v, w, rfl, r, r'⟩ := rp1.two_of
  cases r; cases r'
  exact ⟨i, j, rfl, h1, q1 _ H1 B1 R1 L1 walk_range⟩
/-- a list or a tuple -/
def seqD : D → Option (List D)
  | .list xs => some xs
  | .tuple xs => some xs
  | _ => none
theorem Rp.seq {B : Hp} {v : V} {d : D} {ds : List D} (r : Rp C.K B v d) (h : seqD d = some ds) : ∃ q vs, v = .ref (Sq.a q) ∧ q.st C.K B vs ∧ Rps C.K B vs ds := by
  cases r with
  | lst hb r => cases h; exact ⟨.L _, _, rfl, SqL.of hb, r⟩
  | tup hb r => cases h; exact ⟨.T _, _, rfl, SqT.of hb, r⟩
  | _ => cases h
def enumL (xs : List D) : List D := xs.zipIdx.map fun p => PyData.tuple [.int ((p.2 : Nat) : Int), p.1]
def enumD (ds : List D) : Option (List D) := match ds with
  | [d] => (seqD d).map enumL
  | _ => none
theorem walk_enum {B : Hp} {q : Sq} {vs : List V} {ds : List D} (h : q.st C.K B vs) (r : Rps C.K B vs ds) : Walk C (ItE C.K q) B (enumL ds) where
  go := fun i H hi L => by
    have hv : i < vs.length := by
      unfold enumL at hi
      rw [List.length_map, List.length_zipIdx] at hi
      rw [r.length]; exact hi
    exact ⟨vs, vs[i], Sq.le L h, by simp [hv]⟩
  stop := fun H L => ⟨vs, Sq.le L h, by unfold enumL; rw [List.length_map, List.length_zipIdx]; exact r.length⟩
  yld := fun i H x H' B2 d y e L L2 => by
    obtain ⟨T, z, rfl, hT, rfl, f⟩ := y
    unfold enumL at e
    rw [List.getElem?_map, List.getElem?_zipIdx] at e
    cases e0 : ds[i]? with
    | none => rw [e0] at e; cases e
    | some d0 =>
      rw [e0] at e
      cases e
      obtain ⟨v, e2, rp⟩ := r.get' e0
      have this := f vs (Sq.le L2 (Sq.le L h))
      rw [e2] at this
      obtain rfl : v = z := Option.some.inj this
      have G : Grow H B2 (upd H T (.tup [.int (i : Nat), v])) (upd B2 T (.tup [.int (i : Nat), v])) := .upd hT L2
      refine ⟨_, G, ?_⟩
      have e1 : (((0 + i : Nat) : Nat) : Int) = (i : Nat) := by omega
      simp only [e1]
      exact .tup upd_same (.cons (.int _) (.cons ((rp.le L).le G.b) .nil))
theorem enumD_some {ds xs : List D} (h : enumD ds = some xs) : ∃ d ys, ds = [d] ∧ seqD d = some ys ∧ xs = enumL ys := by
  unfold enumD at h
  split at h
  · rename_i d
    cases e : seqD d with
    | none => rw [e] at h; cases h
    | some ys => rw [e] at h; cases h; exact ⟨d, ys, rfl, e, rfl⟩
  · cases h
theorem satI_enum {ta : TA} {f : M (List D)} (h : SatA C ta f) : SatI C (iEnumX C.K ta) (srcA enumD f) := by
  intro N σ H B g R Rr q
  refine h.run (P := fun x => FinI C N σ B x R) Rr q (fun n ct z => z) (fun z => z) fun ds g' vs H1 B1 _ R1 L1 rp1 q1 => ?_
  obtain ⟨xs, e, q1⟩ := finI_lift q1
  obtain ⟨d, ys, rfl, e2, rfl⟩ := enumD_some e
  obtain ⟨v, rfl, a⟩ := rp1.one_of
  obtain ⟨q, ws, rfl, hq, r⟩ := a.seq e2
  exact ⟨q, ws, rfl, Sq.le R1.sub hq, q1 _ H1 B1 R1 L1 (walk_enum hq r)⟩
def zipL (xs ys : List D) : List D := List.zipWith (fun x y => PyData.tuple [x, y]) xs ys
def zipD (ds : List D) : Option (List D) := match ds with
  | [d, e] => (seqD d).bind fun xs => (seqD e).map fun ys => zipL xs ys
  | _ => none
theorem walk_zip {B : Hp} {q1 q2 : Sq} {vs ws : List V} {ds es : List D} (h1 : q1.st C.K B vs) (r1 : Rps C.K B vs ds) (h2 : q2.st C.K B ws) (r2 : Rps C.K B ws es) : Walk C (ItZ C.K q1 q2) B (zipL ds es) where
  go := fun i H hi L => by
    unfold zipL at hi
    rw [List.length_zipWith] at hi
    have hv : i < vs.length := by rw [r1.length]; omega
    have hw : i < ws.length := by rw [r2.length]; omega
    exact ⟨vs, ws, vs[i], ws[i], Sq.le L h1, Sq.le L h2, by simp [hv], by simp [hw]⟩
  stop := fun H L => ⟨vs, ws, Sq.le L h1, Sq.le L h2, by unfold zipL; rw [List.length_zipWith, r1.length, r2.length]⟩
  yld := fun i H x H' B2 d y e L L2 => by
    obtain ⟨T, z1, z2, rfl, hT, rfl, f1, f2⟩ := y
    unfold zipL at e
    rw [List.getElem?_zipWith] at e
    cases e0 : ds[i]? with
    | none => rw [e0] at e; cases e
    | some d0 =>
      cases e1 : es[i]? with
      | none => rw [e0, e1] at e; cases e
      | some d1 =>
        rw [e0, e1] at e
        cases e
        obtain ⟨v, e2, rp⟩ := r1.get' e0
        obtain ⟨w', e3, rp2⟩ := r2.get' e1
        have g1 := f1 vs (Sq.le L2 (Sq.le L h1))
        have g2 := f2 ws (Sq.le L2 (Sq.le L h2))
        rw [e2] at g1
        rw [e3] at g2
        obtain rfl : v = z1 := Option.some.inj g1
        obtain rfl : w' = z2 := Option.some.inj g2
        have G : Grow H B2 (upd H T (.tup [v, w'])) (upd B2 T (.tup [v, w'])) := .upd hT L2
        exact ⟨_, G, .tup upd_same (.cons ((rp.le L).le G.b) (.cons ((rp2.le L).le G.b) .nil))⟩
theorem zipD_some {ds xs : List D} (h : zipD ds = some xs) : ∃ d e ys zs, ds = [d, e] ∧ seqD d = some ys ∧ seqD e = some zs ∧ xs = zipL ys zs := by
  unfold zipD at h
  split at h
  · rename_i d e
    cases e1 : seqD d with
    | none => rw [e1] at h; cases h
    | some ys =>
      cases e2 : seqD e with
      | none => rw [e1, e2] at h; cases h
      | some zs => rw [e1, e2] at h; cases h; exact ⟨d, e, ys, zs, rfl, e1, e2, rfl⟩
  · cases h
theorem satI_zip {ta : TA} {f : M (List D)} (h : SatA C ta f) : SatI C (iZipX C.K ta) (srcA zipD f) := by
  intro N σ H B g R Rr q
  refine h.run (P := fun x => FinI C N σ B x R) Rr q (fun n ct z => z) (fun z => z) fun ds g' vs H1 B1 _ R1 L1 rp1 q1 => ?_
  obtain ⟨xs, e, q1⟩ := finI_lift q1
  obtain ⟨d, d', ys, zs, rfl, e2, e3, rfl⟩ := zipD_some e
  obtain ⟨v, w, rfl, a, b⟩ := rp1.two_of
  obtain ⟨qa, ws, rfl, hq, r⟩ := a.seq e2
  obtain ⟨qb, us, rfl, hq2, r2⟩ := b.seq e3
  exact ⟨qa, qb, ws, us, rfl, Sq.le R1.sub hq, Sq.le R1.sub hq2, q1 _ H1 B1 R1 L1 (walk_zip hq r hq2 r2)⟩

/-! ### data for the library -/
mutual
theorem Rp.dp {K : PySem.W.Frag} {B H : Hp} (L : Le B H) : ∀ {d : D} {v : V}, d.canLay0 = true → Rp K B v d → Dp K H v d
  | _, _, _, .non => .non
  | _, _, _, .bl b => .bl b
  | _, _, _, .int i => .int i
  | _, _, _, .str x => .str x
  | _, _, h, .tup hq r => .tup (SqT.of (L _ _ hq)) (Rps.dp L (by simpa [PyData.canLay0] using h) r)
  | _, _, h, .lst hq r => .lst (SqL.of (L _ _ hq)) (Rps.dp L (by simpa [PyData.canLay0] using h) r)
  | _, _, h, .dT _ _ _ => by simp [PyData.canLay0] at h
  | _, _, h, .dK _ _ _ => by simp [PyData.canLay0] at h
theorem Rps.dp {K : PySem.W.Frag} {B H : Hp} (L : Le B H) : ∀ {ds : List D} {vs : List V}, PyData.canLayAll0 ds = true → Rps K B vs ds → DpAll K H vs ds
  | _, _, _, .nil => .nil
  | _, _, h, .cons a r => by
    have h' := Bool.and_eq_true_iff.mp (show (PyData.canLay0 _ && PyData.canLayAll0 _) = true from h)
    exact .cons (Rp.dp L h'.1 a) (Rps.dp L h'.2 r)
end

/-! ### operators -/
section
variable {X : Cx}
theorem op_addX : OpR X (binaryOp .Add) (fun x y H Q => ((rI0 fun i j => .int (i + j)) x y H Q ∨ (∃ i j, x = .str i ∧ y = .str j ∧ i.length + j.length ≤ sizeLine ∧ Q (.str (i ++ j)) H)) ∨ rCatA X.K x y H Q ∨ rCat x y H Q) :=
  (op_add.or op_add_str).or (op_catA.or op_cat)
end
def addD : D → D → Option D
  | .int i, .int j => some (.int (i + j))
  | .str i, .str j => if i.length + j.length ≤ sizeLine then some (.str (i ++ j)) else none
  | .tuple xs, .tuple ys => if xs.length + ys.length ≤ sizeLine then some (.tuple (xs ++ ys)) else none
  | .list xs, .list ys => if xs.length + ys.length ≤ sizeLine then some (.list (xs ++ ys)) else none
  | _, _ => none
theorem Rps.nil_iff {K : PySem.W.Frag} {B : Hp} {vs : List V} {ds : List D} (r : Rps K B vs ds) : vs = [] ↔ ds = [] := by
  cases r <;> simp
theorem if_some {c : Prop} [Decidable c] {α : Type} {x d : α} (h : (if c then some x else none) = some d) : c ∧ x = d := by
  split at h
  · rename_i hc; exact ⟨hc, Option.some.inj h⟩
  · cases h
theorem v2_add : V2 C (fun x y H Q => ((rI0 fun i j => .int (i + j)) x y H Q ∨ (∃ i j, x = .str i ∧ y = .str j ∧ i.length + j.length ≤ sizeLine ∧ Q (.str (i ++ j)) H)) ∨ rCatA C.K x y H Q ∨ rCat x y H Q) addD := by
  intro H B x y dx dy d Q L rx ry e q
  cases rx with
  | int i =>
    cases ry with
    | int j => cases e; exact .inl (.inl ⟨i, j, rfl, rfl, q _ H B .refl (.int _)⟩)
    | _ => cases e
  | str i =>
    cases ry with
    | str j =>
      obtain ⟨hl, rfl⟩ := if_some e
      exact .inl (.inr ⟨i, j, rfl, rfl, hl, q _ H B .refl (.str _)⟩)
    | _ => cases e
  | tup hx rx =>
    rename_i a1 vs1 ds1
    cases ry with
    | tup hy ry =>
      rename_i a2 vs2 ds2
      obtain ⟨hl, rfl⟩ := if_some e
      refine .inr (.inl ⟨_, _, _, _, rfl, rfl, SqT.of (L _ _ hx), SqT.of (L _ _ hy), by rw [rx.length, ry.length]; exact hl, fun h0 => ?_, fun h0 h1 => ?_, fun h0 h1 p hp => ?_⟩)
      · have := rx.nil_iff.mp h0; subst this; exact q _ H B .refl (.tup hy ry)
      · have := ry.nil_iff.mp h1; subst this; rw [List.append_nil] at q; exact q _ H B .refl (.tup hx rx)
      · have G := Grow.upd (o := .tup (vs1 ++ vs2)) hp L
        exact q _ _ _ G (.tup upd_same ((rx.append ry).le G.b))
    | _ => cases e
  | lst hx rx =>
    rename_i a1 vs1 ds1
    cases ry with
    | lst hy ry =>
      rename_i a2 vs2 ds2
      obtain ⟨hl, rfl⟩ := if_some e
      refine .inr (.inr ⟨_, _, _, _, rfl, rfl, L _ _ hx, L _ _ hy, by rw [rx.length, ry.length]; exact hl, fun p hp => ?_⟩)
      have G := Grow.upd (o := .lst (vs1 ++ vs2)) hp L
      exact q _ _ _ G (.lst upd_same ((rx.append ry).le G.b))
    | _ => cases e
  | _ => cases e
/-- two ints -/
def i2D (c : Int → Int → Bool) (f : Int → Int → D) : D → D → Option D
  | .int i, .int j => if c i j = true then some (f i j) else none
  | _, _ => none
theorem v2_int {Cn : Int → Int → Prop} {gv : Int → Int → V} {c : Int → Int → Bool} {f : Int → Int → D} (hc : ∀ i j, c i j = true → Cn i j) (hf : ∀ K B i j, Rp K B (gv i j) (f i j)) : V2 C (rI Cn gv) (i2D c f) := by
  intro H B x y dx dy d Q L rx ry e q
  cases rx with
  | int i =>
    cases ry with
    | int j =>
      obtain ⟨h, rfl⟩ := if_some e
      exact ⟨i, j, rfl, rfl, hc i j h, q _ H B .refl (hf _ _ i j)⟩
    | _ => cases e
  | _ => cases e
theorem v2_int0 {gv : Int → Int → V} {f : Int → Int → D} (hf : ∀ K B i j, Rp K B (gv i j) (f i j)) : V2 C (rI0 gv) (i2D (fun _ _ => true) f) := by
  intro H B x y dx dy d Q L rx ry e q
  cases rx with
  | int i =>
    cases ry with
    | int j => cases e; exact ⟨i, j, rfl, rfl, q _ H B .refl (hf _ _ i j)⟩
    | _ => cases e
  | _ => cases e
def subD := i2D (fun _ _ => true) fun i j => .int (i - j)
theorem v2_sub : V2 C (rI0 fun i j => .int (i - j)) subD := v2_int0 fun _ _ _ _ => .int _
def smallI (i : Int) : Bool := decide (-(2 ^ 64) < i ∧ i < 2 ^ 64)
def mulD := i2D (fun i j => smallI i || smallI j) fun i j => .int (i * j)
theorem v2_mul : V2 C (rI CMul fun i j => .int (i * j)) mulD := v2_int (fun i j h => by
  rcases Bool.or_eq_true_iff.mp h with h | h
  · exact .inl (of_decide_eq_true h)
  · exact .inr (of_decide_eq_true h)) fun _ _ _ _ => .int _
def fdivD := i2D (fun _ j => decide (j ≠ 0 ∧ j.natAbs < 1073741824)) fun i j => .int (i.fdiv j)
theorem v2_fdiv : V2 C (rI CDivN fun i j => .int (i.fdiv j)) fdivD := v2_int (fun i j h => (of_decide_eq_true h : j ≠ 0 ∧ j.natAbs < 1073741824)) fun _ _ _ _ => .int _
def modD := i2D (fun _ j => decide (j ≠ 0)) fun i j => .int (i.fmod j)
theorem v2_mod : V2 C (rI (fun _ j => j ≠ 0) fun i j => .int (i.fmod j)) modD := v2_int (fun i j h => of_decide_eq_true h) fun _ _ _ _ => .int _
def powOk (i j : Int) : Bool := decide (0 ≤ j ∧ j ≤ 1000000 ∧ i.natAbs < 2 ^ 64)
def powD := i2D powOk fun i j => .int (i ^ j.toNat)
theorem v2_pow : V2 C (rI CPow fun i j => .int (i ^ j.toNat)) powD := v2_int (fun i j h => (of_decide_eq_true h : 0 ≤ j ∧ j ≤ 1000000 ∧ i.natAbs < 2 ^ 64)) fun _ _ _ _ => .int _
def shlD := i2D powOk fun i j => .int (i * 2 ^ j.toNat)
theorem v2_shl : V2 C (rI CPow fun i j => .int (i * 2 ^ j.toNat)) shlD := v2_int (fun i j h => (of_decide_eq_true h : 0 ≤ j ∧ j ≤ 1000000 ∧ i.natAbs < 2 ^ 64)) fun _ _ _ _ => .int _
def shrD := i2D (fun _ j => decide (0 ≤ j)) fun i j => .int (i / 2 ^ j.toNat)
theorem v2_shr : V2 C (rI (fun _ j => 0 ≤ j) fun i j => .int (i / 2 ^ j.toNat)) shrD := v2_int (fun i j h => of_decide_eq_true h) fun _ _ _ _ => .int _
def bandD := i2D (fun _ _ => true) fun i j => .int (Builtin.bitAnd i j)
theorem v2_and : V2 C (rI0 fun i j => .int (Builtin.bitAnd i j)) bandD := v2_int0 fun _ _ _ _ => .int _
def ltD := i2D (fun _ _ => true) fun i j => .bool (decide (i < j))
theorem v2_lt : V2 C (rI0 fun i j => .bl (decide (i < j))) ltD := v2_int0 fun _ _ _ _ => .bl _
def leD := i2D (fun _ _ => true) fun i j => .bool (decide (i ≤ j))
theorem v2_le : V2 C (rI0 fun i j => .bl (decide (i ≤ j))) leD := v2_int0 fun _ _ _ _ => .bl _
def gtD := i2D (fun _ _ => true) fun i j => .bool (decide (j < i))
theorem v2_gt : V2 C (rI0 fun i j => .bl (decide (j < i))) gtD := v2_int0 fun _ _ _ _ => .bl _
def geD := i2D (fun _ _ => true) fun i j => .bool (decide (j ≤ i))
theorem v2_ge : V2 C (rI0 fun i j => .bl (decide (j ≤ i))) geD := v2_int0 fun _ _ _ _ => .bl _
theorem canLay_shaped {d : D} (h : SeqAt.shaped d = true) : d.canLay0 = true := SeqAt.canLay_of_shaped h
def eqD (x y : D) : Option D := if SeqAt.shaped x = true ∧ SeqAt.shaped y = true then some (.bool (PyData.eqv x y)) else none
def neD (x y : D) : Option D := if SeqAt.shaped x = true ∧ SeqAt.shaped y = true then some (.bool (!PyData.eqv x y)) else none
theorem v2_eq : V2 C (rEqD C.K) eqD := by
  intro H B x y dx dy d Q L rx ry e q
  obtain ⟨h, rfl⟩ := if_some e
  exact ⟨dx, dy, rx.dp L (canLay_shaped h.1), ry.dp L (canLay_shaped h.2), h.1, h.2, q _ H B .refl (.bl _)⟩
theorem v2_ne : V2 C (rNeD C.K) neD := by
  intro H B x y dx dy d Q L rx ry e q
  obtain ⟨h, rfl⟩ := if_some e
  exact ⟨dx, dy, rx.dp L (canLay_shaped h.1), ry.dp L (canLay_shaped h.2), h.1, h.2, q _ H B .refl (.bl _)⟩
/-- x in a list or a tuple of data -/
def anyE (d : D) (ds : List D) : Bool := ds.any fun z => PyData.eqv z d
def rInX (K : PySem.W.Frag) (neg : Bool) : R2 := fun x y H Q => ∃ d e ds, Dp K H x d ∧ Dp K H y e ∧ seqD e = some ds ∧ SeqAt.shaped d = true ∧ SeqAt.shaped e = true ∧ Q (.bl (if neg then !(anyE d ds) else anyE d ds)) H
theorem shaped_items {e : D} {ds : List D} (h : seqD e = some ds) (hs : SeqAt.shaped e = true) : PyData.canLayAll0 ds = true := by
  have := canLay_shaped hs
  cases e <;> cases h <;> simpa [PyData.canLay0] using this
theorem op_inX {X : Cx} (hu : X.A.units + 65 < cLine) : OpR X (compareOp .In) (rInX X.K false) := by
  intro pins s σ H x y v u Q I rx ry h
  obtain ⟨d, e, ds, hd, he, es, sd, se, q⟩ := h
  obtain ⟨as, r1⟩ := Dp.reads I d x v hd rx
  obtain ⟨bs, r2⟩ := Dp.reads I e y u he ry
  have hr := PyProof.Rows.room_in_shaped (xs := ds) sd hu
  have hi := shaped_items es se
  cases e with
  | list xs => cases es; exact SeqAt.in_list_reads r2 r1 hi (canLay_shaped sd) hr ⟨.bl _, H, I, rfl, q⟩
  | tuple xs => cases es; exact SeqAt.in_tuple_reads r2 r1 hi (canLay_shaped sd) hr ⟨.bl _, H, I, rfl, q⟩
  | _ => cases es
theorem op_notInX {X : Cx} (hu : X.A.units + 65 < cLine) : OpR X (compareOp .NotIn) (rInX X.K true) := by
  intro pins s σ H x y v u Q I rx ry h
  obtain ⟨d, e, ds, hd, he, es, sd, se, q⟩ := h
  obtain ⟨as, r1⟩ := Dp.reads I d x v hd rx
  obtain ⟨bs, r2⟩ := Dp.reads I e y u he ry
  have hr := PyProof.Rows.room_in_shaped (xs := ds) sd hu
  have hi := shaped_items es se
  cases e with
  | list xs => cases es; exact SeqAt.notIn_list_reads r2 r1 hi (canLay_shaped sd) hr ⟨.bl _, H, I, rfl, q⟩
  | tuple xs => cases es; exact SeqAt.notIn_tuple_reads r2 r1 hi (canLay_shaped sd) hr ⟨.bl _, H, I, rfl, q⟩
  | _ => cases es
def inD (neg : Bool) (x y : D) : Option D := if SeqAt.shaped x = true ∧ SeqAt.shaped y = true then (seqD y).map fun ds => .bool (if neg then !(anyE x ds) else anyE x ds) else none
theorem v2_in {neg : Bool} : V2 C (rInX C.K neg) (inD neg) := by
  intro H B x y dx dy d Q L rx ry e q
  have e : (if SeqAt.shaped dx = true ∧ SeqAt.shaped dy = true then (seqD dy).map fun ds => PyData.bool (if neg then !(anyE dx ds) else anyE dx ds) else none) = some d := e
  split at e
  · rename_i h
    cases es : seqD dy with
    | none => rw [es] at e; cases e
    | some ds =>
      rw [es] at e
      cases e
      exact ⟨dx, dy, ds, rx.dp L (canLay_shaped h.1), ry.dp L (canLay_shaped h.2), es, h.1, h.2, q _ H B .refl (.bl _)⟩
  · cases e

/-! ### items, parts -/
theorem Rps.atI {B : Hp} {vs : List V} {ds : List D} {i : Int} {d : D} (r : Rps C.K B vs ds) (h : L2.atI ds i = some d) : ∃ v, L2.atI vs i = some v ∧ Rp C.K B v d := by
  unfold L2.atI at h ⊢
  rw [r.length]
  cases e : ixN ds.length i with
  | none => rw [e] at h; cases h
  | some j => rw [e] at h; exact r.get' h
def ixD : D → D → Option D
  | .list xs, .int i => L2.atI xs i
  | .tuple xs, .int i => L2.atI xs i
  | .str x, .int i => if x.length ≤ sizeLine then (L2.atI x.cps.toList i).map fun c => .str ⟨#[c]⟩ else none
  | _, _ => none
theorem v2_ix : V2 C (rIx C.K) ixD := by
  intro H B x y dx dy d Q L rx ry e q
  cases rx with
  | lst hx rx =>
    cases ry with
    | int i => obtain ⟨v, e1, rp⟩ := rx.atI e; exact .inl ⟨_, _, i, v, rfl, rfl, SqL.of (L _ _ hx), e1, q _ H B .refl rp⟩
    | _ => cases e
  | tup hx rx =>
    cases ry with
    | int i => obtain ⟨v, e1, rp⟩ := rx.atI e; exact .inr (.inl ⟨_, _, i, v, rfl, rfl, SqT.of (L _ _ hx), e1, q _ H B .refl rp⟩)
    | _ => cases e
  | str z =>
    cases ry with
    | int i =>
      have e : (if z.length ≤ sizeLine then (L2.atI z.cps.toList i).map fun c => PyData.str ⟨#[c]⟩ else none) = some d := e
      split at e
      · rename_i hl
        cases e1 : L2.atI z.cps.toList i with
        | none => rw [e1] at e; cases e
        | some c =>
          rw [e1] at e
          cases e
          exact .inr (.inr ⟨z, i, c, rfl, rfl, hl, e1, q _ H B .refl (.str _)⟩)
      · cases e
    | _ => cases e
  | _ => cases e
/-- parts -/
def partM (f : M D) : M (Option Int) := bindM f fun d => match d with
  | .int i => pureM (some i)
  | _ => fun _ => .bad
def FinO (C : Ctx) (N : An) (σ : St) (B : Hp) (r : Res (Option Int)) (Q : Option Int → Hp → Prop) : Prop := match r with
  | .ok b g => ∀ H' B', Rep C N σ H' B' g → Le B B' → Q b H'
  | .exc n ct => ∀ cl H' B', Rep C N σ H' B' ⟨σ.map fun _ => Slot.no, ct⟩ → C.mg n = some (.ref cl) → C.E σ (.ref cl) none H'
  | .bad => False
def SatO (C : Ctx) (t : TO) (f : M (Option Int)) : Prop := ∀ N σ H B g (Q : Option Int → Hp → Prop), Rep C N σ H B g → FinO C N σ B (f g) Q → t σ H Q
theorem satO_no : SatO C tNoPart (pureM none) := fun N σ H B g Q R q => q H B R (.refl _)
theorem satO_part {t : TE} {f : M D} (h : Sat C t f) : SatO C (tPart t) (partM f) := by
  intro N σ H B g Q R q
  refine h.run (P := fun x => FinO C N σ B x Q) R q (fun n ct z => z) (fun z => z) fun d g' v H1 B1 _ R1 L1 rp1 q1 => ?_
  cases d with
  | int i => cases rp1; exact ⟨i, rfl, q1 H1 B1 R1 L1⟩
  | _ => exact q1.elim
theorem SatO.run {t : TO} {f : M (Option Int)} (h : SatO C t f) {N : An} {σ : St} {H B : Hp} {g : Sg} {Q : Option Int → Hp → Prop} (R : Rep C N σ H B g) {β : Type} {k : Option Int → M β} {P : Res β → Prop} (hf : P (bindM f k g))
    (hx : ∀ n ct, P (.exc n ct) → ∀ cl H' B', Rep C N σ H' B' ⟨σ.map fun _ => Slot.no, ct⟩ → C.mg n = some (.ref cl) → C.E σ (.ref cl) none H') (hb : ¬ P .bad)
    (hk : ∀ d g' H' B', Rep C N σ H' B' g' → Le B B' → P (k d g') → Q d H') : t σ H Q := by
  refine h N σ H B g Q R ?_
  have hf : P ((f g).bind k) := hf
  cases e : f g with
  | ok d g' => rw [e] at hf; exact fun H' B' R' L => hk d g' H' B' R' L hf
  | exc n ct => rw [e] at hf; exact hx n ct hf
  | bad => rw [e] at hf; exact hb hf
def cutL (xs : List D) (lo hi : Option Int) : List D := (xs.drop (HT.sIx xs.length 0 lo)).take (HT.sIx xs.length xs.length hi - HT.sIx xs.length 0 lo)
theorem Rps.cut {B : Hp} {vs : List V} {ds : List D} (r : Rps C.K B vs ds) (lo hi : Option Int) : Rps C.K B (cutV vs lo hi) (cutL ds lo hi) := by
  unfold cutL cutV
  rw [r.length]
  exact (r.drop _).take _
def cutD (d : D) (lo hi : Option Int) : Option D := match d with
  | .list xs => some (.list (cutL xs lo hi))
  | .tuple xs => some (.tuple (cutL xs lo hi))
  | _ => none
def sliceM (f : M D) (fl fh : M (Option Int)) : M D := bindM f fun d => bindM fl fun lo => bindM fh fun hi => liftO (cutD d lo hi)
theorem sl_seqX {X : Cx} : SlR X (fun x lo hi H Q => rSlL X.K x lo hi H Q ∨ rSlA X.K x lo hi H Q) := sl_list.or sl_tupA
theorem sat_slice {te : TE} {tl th : TO} {f : M D} {fl fh : M (Option Int)} (h : Sat C te f) (hl : SatO C tl fl) (hh : SatO C th fh) : Sat C (tSl (fun x lo hi H Q => rSlL C.K x lo hi H Q ∨ rSlA C.K x lo hi H Q) te tl th) (sliceM f fl fh) := by
  intro N σ H B g Q R q
  refine h.run (P := fun x => Fin C N σ B x Q) R q (fun n ct z => z) (fun z => z) fun d g' v H1 B1 _ R1 L1 rp1 q1 => ?_
  refine hl.run (P := fun x => Fin C N σ B x Q) R1 q1 (fun n ct z => z) (fun z => z) fun lo g2 H2 B2 R2 L2 q2 => ?_
  refine hh.run (P := fun x => Fin C N σ B x Q) R2 q2 (fun n ct z => z) (fun z => z) fun hi g3 H3 B3 R3 L3 q3 => ?_
  obtain ⟨d', e, q3⟩ := lift_fin R3 ((L1.trans L2).trans L3) q3
  have rp := (rp1.le L2).le L3
  cases rp with
  | lst hx r =>
    rename_i a1 vs1 ds1 _
    cases e
    refine .inl ⟨_, _, rfl, SqL.of (R3.sub _ _ hx), fun p hp => ?_⟩
    have G := Grow.upd (o := .lst (cutV vs1 lo hi)) hp R3.sub
    exact q3 _ _ _ G (.lst upd_same ((r.cut lo hi).le G.b))
  | tup hx r =>
    rename_i a1 vs1 ds1 _
    cases e
    refine .inr ⟨_, _, rfl, SqT.of (R3.sub _ _ hx), fun hw => ?_, fun hw p hp => ?_⟩
    · rw [r.length] at hw
      refine q3 _ _ _ .refl (.tup hx ?_)
      unfold cutL
      rw [hw.1, hw.2, List.drop_zero, Nat.sub_zero, List.take_length]
      exact r
    · have G := Grow.upd (o := .tup (cutV vs1 lo hi)) hp R3.sub
      exact q3 _ _ _ G (.tup upd_same ((r.cut lo hi).le G.b))
  | _ => cases e
/-- xs[::-1] -/
def revD (d : D) : Option D := match d with
  | .list xs => some (.list xs.reverse)
  | _ => none
theorem sat_rev {te : TE} {f : M D} (h : Sat C te f) : Sat C (tRevL C.K te) (op1 revD f) := by
  intro N σ H B g Q R q
  refine h.run (P := fun x => Fin C N σ B x Q) R q (fun n ct z => z) (fun z => z) fun d g' v H1 B1 _ R1 L1 rp1 q1 => ?_
  obtain ⟨d', e, q3⟩ := lift_fin R1 L1 q1
  cases rp1 with
  | lst hx r =>
    rename_i a1 vs1 ds1 _
    cases e
    refine ⟨_, _, rfl, SqL.of (R1.sub _ _ hx), fun p hp => ?_⟩
    have G := Grow.upd (o := .lst (List.reverse vs1)) hp R1.sub
    exact q3 _ _ _ G (.lst upd_same (r.reverse.le G.b))
  | _ => cases e
end
end DL

set_option Elab.async false
set_option linter.all false
set_option maxRecDepth 100000
set_option maxHeartbeats 4000000
namespace DL
open PySem PySem.Spec L2
open PyProof.Rows hiding St

/-! ### keys -/
def toKey : D → Option Key
  | .int i => some (.inl i)
  | .str x => some (.inr x)
  | _ => none
def toKeys : List D → Option (List Key)
  | [] => some []
  | d :: r => (toKey d).bind fun k => (toKeys r).map fun ks => k :: ks
theorem toKey_some {d : D} {k : Key} (h : toKey d = some k) : d = keyD k := by
  cases d <;> cases h <;> rfl
theorem toKey_keyD (k : Key) : toKey (keyD k) = some k := by cases k <;> rfl
theorem toKeys_some : ∀ {ds : List D} {ks : List Key}, toKeys ds = some ks → ds = ks.map keyD
  | [], ks, h => by cases h; rfl
  | d :: r, ks, h => by
    unfold toKeys at h
    cases e : toKey d with
    | none => rw [e] at h; cases h
    | some k =>
      rw [e] at h
      cases e2 : toKeys r with
      | none => rw [e2] at h; cases h
      | some ks' =>
        rw [e2] at h
        cases h
        rw [toKey_some e, toKeys_some e2]
        rfl
theorem toKeys_map (ks : List Key) : toKeys (ks.map keyD) = some ks := by
  induction ks with
  | nil => rfl
  | cons k r ih => rw [List.map_cons, toKeys, toKey_keyD, ih]; rfl
theorem Rp.key {K : PySem.W.Frag} {B : Hp} {v : V} {k : Key} (r : Rp K B v (keyD k)) : v = kV k := by
  cases k with
  | inl i => cases r; rfl
  | inr x => cases r; rfl
theorem Rps.keys {K : PySem.W.Frag} {B : Hp} : ∀ {ks : List Key} {vs : List V}, Rps K B vs (ks.map keyD) → vs = ks.map kV
  | [], _, .nil => rfl
  | k :: ks, _, .cons h r => by rw [h.key, Rps.keys r]; rfl
section
variable {κ : Type} [DecidableEq κ]
def valD (kvs : List (κ × D)) (k : κ) : Option D := (kvs.find? fun kv => decide (kv.1 = k)).map (·.2)
def putD (kvs : List (κ × D)) (k : κ) (v : D) : List (κ × D) :=
  if (kvs.any fun kv => decide (kv.1 = k)) = true then kvs.map (fun kv => if kv.1 = k then (kv.1, v) else kv) else kvs ++ [(k, v)]
end
/-- pairs that stand for pairs -/
inductive Rpd {κ : Type} (K : PySem.W.Frag) (B : Hp) : List (κ × V) → List (κ × D) → Prop
  | nil : Rpd K B [] []
  | cons {k : κ} {v : V} {vs : List (κ × V)} {d : D} {ds : List (κ × D)} : Rp K B v d → Rpd K B vs ds → Rpd K B ((k, v) :: vs) ((k, d) :: ds)
section
variable {K : PySem.W.Frag} {B : Hp}
theorem RpsT.pd : ∀ {vs : List (List Key × V)} {ds : List (List Key × D)}, RpsT K B vs ds → Rpd K B vs ds
  | _, _, .nil => .nil
  | _, _, .cons h r => .cons h r.pd
theorem RpsK.pd : ∀ {vs : List (Key × V)} {ds : List (Key × D)}, RpsK K B vs ds → Rpd K B vs ds
  | _, _, .nil => .nil
  | _, _, .cons h r => .cons h r.pd
theorem Rpd.toT : ∀ {vs : List (List Key × V)} {ds : List (List Key × D)}, Rpd K B vs ds → RpsT K B vs ds
  | _, _, .nil => .nil
  | _, _, .cons h r => .cons h r.toT
theorem Rpd.toK : ∀ {vs : List (Key × V)} {ds : List (Key × D)}, Rpd K B vs ds → RpsK K B vs ds
  | _, _, .nil => .nil
  | _, _, .cons h r => .cons h r.toK
variable {κ : Type}
theorem Rpd.length : ∀ {vs : List (κ × V)} {ds : List (κ × D)}, Rpd K B vs ds → vs.length = ds.length
  | _, _, .nil => rfl
  | _, _, .cons _ r => by rw [List.length_cons, List.length_cons, r.length]
theorem Rpd.append : ∀ {vs ws : List (κ × V)} {ds es : List (κ × D)}, Rpd K B vs ds → Rpd K B ws es → Rpd K B (vs ++ ws) (ds ++ es)
  | _, _, _, _, .nil, s => s
  | _, _, _, _, .cons h r, s => .cons h (r.append s)
variable [DecidableEq κ]
theorem Rpd.val : ∀ {vs : List (κ × V)} {ds : List (κ × D)}, Rpd K B vs ds → ∀ k, (valV vs k = none ∧ valD ds k = none) ∨ ∃ v d, valV vs k = some v ∧ valD ds k = some d ∧ Rp K B v d
  | _, _, .nil, k => .inl ⟨rfl, rfl⟩
  | _, _, .cons (k := k') h r, k => by
    by_cases e : k' = k
    · refine .inr ⟨_, _, ?_, ?_, h⟩
      · simp [valV, e]
      · simp [valD, e]
    · rcases r.val k with ⟨a, b⟩ | ⟨v, d, a, b, c⟩
      · exact .inl ⟨by simpa [valV, e] using a, by simpa [valD, e] using b⟩
      · exact .inr ⟨v, d, by simpa [valV, e] using a, by simpa [valD, e] using b, c⟩
theorem Rpd.any : ∀ {vs : List (κ × V)} {ds : List (κ × D)}, Rpd K B vs ds → ∀ k, (vs.any fun kv => decide (kv.1 = k)) = (ds.any fun kv => decide (kv.1 = k))
  | _, _, .nil, k => rfl
  | _, _, .cons _ r, k => by rw [List.any_cons, List.any_cons, r.any k]
theorem Rpd.mapPut {v : V} {d : D} (h : Rp K B v d) (k : κ) : ∀ {vs : List (κ × V)} {ds : List (κ × D)}, Rpd K B vs ds →
    Rpd K B (vs.map fun kv => if kv.1 = k then (kv.1, v) else kv) (ds.map fun kv => if kv.1 = k then (kv.1, d) else kv)
  | _, _, .nil => .nil
  | _, _, .cons (k := k') h' r => by
    rw [List.map_cons, List.map_cons]
    by_cases e : k' = k
    · simp only [e, if_true]; exact .cons h (Rpd.mapPut h k r)
    · simp only [e, if_false]; exact .cons h' (Rpd.mapPut h k r)
theorem Rpd.put {vs : List (κ × V)} {ds : List (κ × D)} (r : Rpd K B vs ds) {v : V} {d : D} (h : Rp K B v d) (k : κ) : Rpd K B (putK vs k v) (putD ds k d) := by
  unfold putK putD
  rw [r.any k]
  split
  · exact Rpd.mapPut h k r
  · exact r.append (.cons h .nil)
theorem Rpd.le {B' : Hp} (L : Le B B') : ∀ {vs : List (κ × V)} {ds : List (κ × D)}, Rpd K B vs ds → Rpd K B' vs ds
  | _, _, .nil => .nil
  | _, _, .cons h r => .cons (h.le L) (r.le L)
end
def toKeyT : D → Option (List Key)
  | .tuple ks => toKeys ks
  | _ => none
theorem toKeyT_some {d : D} {k : List Key} (h : toKeyT d = some k) : d = keyTD k := by
  cases d with
  | tuple ks => unfold keyTD; rw [toKeys_some h]
  | _ => cases h
theorem toKeyT_map (k : List Key) : toKeyT (keyTD k) = some k := toKeys_map k
def undD {κ : Type} (f : D → Option κ) : List (D × D) → Option (List (κ × D))
  | [] => some []
  | (k, v) :: r => (f k).bind fun k' => (undD f r).map fun ds => (k', v) :: ds
theorem undT_map (ds : List (List Key × D)) : undD toKeyT (ds.map fun p => (keyTD p.1, p.2)) = some ds := by
  induction ds with
  | nil => rfl
  | cons p r ih => rw [List.map_cons, undD, toKeyT_map, ih]; rfl
theorem undK_map (ds : List (Key × D)) : undD toKey (ds.map fun p => (keyD p.1, p.2)) = some ds := by
  induction ds with
  | nil => rfl
  | cons p r ih => rw [List.map_cons, undD, toKey_keyD, ih]; rfl
/-- what a shared dict gives for a key: not known where it is empty -/
def findD (d key : D) : Option (Option D) := match d with
  | .dict [] => none
  | .dict kvs => match toKeyT key with
    | some k => (undD toKeyT kvs).map fun ds => valD ds k
    | none => (toKey key).bind fun k => (undD toKey kvs).map fun ds => valD ds k
  | _ => none
theorem undD_none_K {ds : List (Key × D)} (h : ds ≠ []) : undD toKeyT (ds.map fun p => (keyD p.1, p.2)) = none := by
  cases ds with
  | nil => exact absurd rfl h
  | cons p r =>
    obtain ⟨k, v⟩ := p
    rw [List.map_cons, undD]
    cases k <;> rfl
theorem undD_none_T {ds : List (List Key × D)} (h : ds ≠ []) : undD toKey (ds.map fun p => (keyTD p.1, p.2)) = none := by
  cases ds with
  | nil => exact absurd rfl h
  | cons p r => rfl
section
variable {C : Ctx}
/-- a shared dict read -/
theorem Rp.find {H B : Hp} (L : Le B H) {x y : V} {d key : D} {o : Option D} (rx : Rp C.K B x d) (ry : Rp C.K B y key) (h : findD d key = some o) : ∃ a ov, x = .ref a ∧ IsD H a ∧ DGet H a y ov ∧ ((ov = none ∧ o = none) ∨ ∃ v e, ov = some v ∧ o = some e ∧ Rp C.K B v e) := by
  have fin : ∀ {κ : Type} [DecidableEq κ] {vs : List (κ × V)} {ds : List (κ × D)} {k : κ}, Rpd C.K B vs ds → valD ds k = o → (valV vs k = none ∧ o = none) ∨ ∃ v e, valV vs k = some v ∧ o = some e ∧ Rp C.K B v e := fun {κ _ vs ds k} r e => by
    rcases r.val k with ⟨a, b⟩ | ⟨v, d, a, b, c⟩
    · exact .inl ⟨a, e ▸ b⟩
    · exact .inr ⟨v, d, a, e ▸ b, c⟩
  cases rx with
  | dT ha r e =>
    rename_i a ks ds kvs
    subst e
    cases ds with
    | nil => cases h
    | cons p ds =>
      have h : (match toKeyT key with
        | some k => (undD toKeyT ((p :: ds).map fun p => (keyTD p.1, p.2))).map fun ds => valD ds k
        | none => (toKey key).bind fun k => (undD toKey ((p :: ds).map fun p => (keyTD p.1, p.2))).map fun ds => valD ds k) = some o := h
      cases e : toKeyT key with
      | none =>
        rw [e, undD_none_T (by simp)] at h
        cases e2 : toKey key with
        | none => rw [e2] at h; cases h
        | some k => rw [e2] at h; cases h
      | some k =>
        rw [e, undT_map] at h
        have hv : valD (p :: ds) k = o := Option.some.inj h
        obtain rfl := toKeyT_some e
        cases ry with
        | tup hb rk =>
          rw [rk.keys] at hb
          exact ⟨a, _, rfl, .inr ⟨_, .inl (L _ _ ha)⟩, .t (L _ _ ha) (L _ _ hb), fin r.pd hv⟩
  | dK ha r e =>
    rename_i a ks ds kvs
    subst e
    cases ds with
    | nil => cases h
    | cons p ds =>
      have h : (match toKeyT key with
        | some k => (undD toKeyT ((p :: ds).map fun p => (keyD p.1, p.2))).map fun ds => valD ds k
        | none => (toKey key).bind fun k => (undD toKey ((p :: ds).map fun p => (keyD p.1, p.2))).map fun ds => valD ds k) = some o := h
      cases e : toKeyT key with
      | some k => rw [e, undD_none_K (by simp)] at h; cases h
      | none =>
        rw [e] at h
        cases e2 : toKey key with
        | none => rw [e2] at h; cases h
        | some k =>
          rw [e2, undK_map] at h
          have hv : valD (p :: ds) k = o := Option.some.inj h
          obtain rfl := toKey_some e2
          rw [ry.key]
          exact ⟨a, _, rfl, .inl ⟨_, .inl (L _ _ ha)⟩, .k (L _ _ ha), fin r.pd hv⟩
  | _ => cases h
/-- d[k] of a shared dict -/
def dgetD (d key : D) : Option D := (findD d key).bind id
theorem sat_dget {td ty : TE} {f k : M D} (h : Sat C td f) (h2 : Sat C ty k) : Sat C (tDGet td ty) (op2 dgetD f k) := by
  intro N σ H B g Q R q
  refine h.run (P := fun x => Fin C N σ B x Q) R q (fun n ct z => z) (fun z => z) fun d g' v H1 B1 _ R1 L1 rp1 q1 => ?_
  refine h2.run (P := fun x => Fin C N σ B x Q) R1 q1 (fun n ct z => z) (fun z => z) fun d2 g2 v2 H2 B2 _ R2 L2 rp2 q2 => ?_
  obtain ⟨d3, e, q3⟩ := lift_fin R2 (L1.trans L2) q2
  unfold dgetD at e
  cases e1 : findD d d2 with
  | none => rw [e1] at e; cases e
  | some o =>
    rw [e1] at e
    have e : o = some d3 := e
    subst e
    obtain ⟨a, ov, rfl, _, g3, ⟨_, z⟩ | ⟨v3, e3, rfl, z, rp3⟩⟩ := (rp1.le L2).find R2.sub rp2 e1
    · cases z
    · cases z; exact ⟨a, v3, rfl, g3, q3 _ _ _ .refl rp3⟩
/-- d.get(k, x) of a shared dict -/
def dget2M (f k l : M D) : M D := bindM f fun d => bindM k fun key => bindM l fun z => liftO ((findD d key).map fun o => o.getD z)
theorem sat_dget2 {td ty tx : TE} {f k l : M D} (h : Sat C td f) (h2 : Sat C ty k) (h3 : Sat C tx l) (hd : ∀ g d g', f g = .ok d g' → ∃ kvs, d = .dict kvs) : Sat C (tDGet2 td ty tx) (dget2M f k l) := by
  intro N σ H B g Q R q
  refine h.run (P := fun x => Fin C N σ B x Q) R q (fun n ct z => z) (fun z => z) fun d g' v H1 B1 ef R1 L1 rp1 q1 => ?_
  have isd : ∃ a, v = .ref a ∧ IsD H1 a := by
    obtain ⟨kvs, rfl⟩ := hd _ _ _ ef
    cases rp1 with
    | dT ha _ _ => exact ⟨_, rfl, .inr ⟨_, .inl (R1.sub _ _ ha)⟩⟩
    | dK ha _ _ => exact ⟨_, rfl, .inl ⟨_, .inl (R1.sub _ _ ha)⟩⟩
  obtain ⟨a, rfl, ha⟩ := isd
  refine ⟨a, rfl, ha, ?_⟩
  refine h2.run (P := fun x => Fin C N σ B x Q) R1 q1 (fun n ct z => z) (fun z => z) fun d2 g2 v2 H2 B2 _ R2 L2 rp2 q2 => ?_
  refine h3.run (P := fun x => Fin C N σ B x Q) R2 q2 (fun n ct z => z) (fun z => z) fun d3 g3 v3 H3 B3 _ R3 L3 rp3 q3 => ?_
  obtain ⟨d4, e, q4⟩ := lift_fin R3 ((L1.trans L2).trans L3) q3
  cases e1 : findD d d2 with
  | none => rw [e1] at e; cases e
  | some o =>
    rw [e1] at e
    have e : o.getD d3 = d4 := Option.some.inj e
    obtain ⟨a', ov, e', _, g4, hh⟩ := ((rp1.le L2).le L3).find R3.sub (rp2.le L3) e1
    cases e'
    refine ⟨ov, g4, ?_⟩
    rcases hh with ⟨rfl, rfl⟩ | ⟨v4, e4, rfl, rfl, rp4⟩
    · exact q4 _ _ _ .refl (e ▸ rp3)
    · exact q4 _ _ _ .refl (e ▸ rp4)
/-- k in d, k not in d of a shared dict -/
def dinD (neg : Bool) (key d : D) : Option D := (findD d key).map fun o => .bool (if neg then !o.isSome else o.isSome)
theorem din_end {H B : Hp} {neg : Bool} {x y : V} {d key e : D} {Q : VK} (L : Le B H) (rx : Rp C.K B x d) (ry : Rp C.K B y key) (h : dinD neg key d = some e) (q : ∀ v H' B', Grow H B H' B' → Rp C.K B' v e → Q v H') : ∃ a o, x = .ref a ∧ DGet H a y o ∧ Q (.bl (if neg then !o.isSome else o.isSome)) H := by
  unfold dinD at h
  cases e1 : findD d key with
  | none => rw [e1] at h; cases h
  | some o =>
    rw [e1] at h
    cases h
    obtain ⟨a, ov, rfl, _, g3, hh⟩ := rx.find L ry e1
    refine ⟨a, ov, rfl, g3, ?_⟩
    rcases hh with ⟨rfl, rfl⟩ | ⟨v4, e4, rfl, rfl, rp4⟩
    · exact q _ _ _ .refl (.bl _)
    · exact q _ _ _ .refl (.bl _)
theorem sat_din {td ty : TE} {f k : M D} (h : Sat C ty k) (h2 : Sat C td f) : Sat C (tDIn ty td) (op2 (dinD false) k f) := by
  intro N σ H B g Q R q
  refine h.run (P := fun x => Fin C N σ B x Q) R q (fun n ct z => z) (fun z => z) fun d g' v H1 B1 _ R1 L1 rp1 q1 => ?_
  refine h2.run (P := fun x => Fin C N σ B x Q) R1 q1 (fun n ct z => z) (fun z => z) fun d2 g2 v2 H2 B2 _ R2 L2 rp2 q2 => ?_
  obtain ⟨d3, e, q3⟩ := lift_fin R2 (L1.trans L2) q2
  exact din_end R2.sub rp2 (rp1.le L2) e q3
theorem sat_dnotin {td ty : TE} {f k : M D} (h : Sat C ty k) (h2 : Sat C td f) : Sat C (tDNotIn ty td) (op2 (dinD true) k f) := by
  intro N σ H B g Q R q
  refine h.run (P := fun x => Fin C N σ B x Q) R q (fun n ct z => z) (fun z => z) fun d g' v H1 B1 _ R1 L1 rp1 q1 => ?_
  refine h2.run (P := fun x => Fin C N σ B x Q) R1 q1 (fun n ct z => z) (fun z => z) fun d2 g2 v2 H2 B2 _ R2 L2 rp2 q2 => ?_
  obtain ⟨d3, e, q3⟩ := lift_fin R2 (L1.trans L2) q2
  exact din_end R2.sub rp2 (rp1.le L2) e q3

/-! ### what a place alone knows -/
/-- the list that stands at a place: its own or a shared one -/
def seqAt (g : Sg) (i : Nat) : Option (List D) := match g.sl[i]? with
  | some (.own xs) => some xs
  | some (.dat d) => seqD d
  | _ => none
theorem Rep.seqAt {N : An} {σ : St} {H B : Hp} {g : Sg} (R : Rep C N σ H B g) {i : Nat} {xs : List D} (h : DL.seqAt g i = some xs) : ∃ q vs, σ[i]? = some (some (.ref (Sq.a q))) ∧ q.st C.K H vs ∧ Rps C.K B vs xs := by
  unfold DL.seqAt at h
  cases e : g.sl[i]? with
  | none => rw [e] at h; cases h
  | some s =>
    rw [e] at h
    have r := R.slots i s e
    cases s with
    | own ys =>
      cases h
      obtain ⟨p, vs, e1, n, hH, rp⟩ := r
      exact ⟨.L p, vs, getD_some e1, SqL.of hH, rp⟩
    | dat d =>
      obtain ⟨v, e1, rp⟩ := r
      obtain ⟨q, vs, rfl, hq, r⟩ := rp.seq h
      exact ⟨q, vs, getD_some e1, Sq.le R.sub hq, r⟩
    | _ => cases h
/-- len(x) -/
def lenV (i : Nat) : M D := fun g => match seqAt g i with
  | some xs => .ok (.int (xs.length : Nat)) g
  | none => .bad
abbrev rLen (K : PySem.W.Frag) : List V → Hp → VK → Prop := fun xs H Q => ∃ x n, xs = [x] ∧ LenV K x H n ∧ Q (.int n) H
theorem lenV_sq {K : PySem.W.Frag} {H : Hp} {q : Sq} {vs : List V} (h : q.st K H vs) : LenV K (.ref q.a) H vs.length := by
  cases q with
  | L a => exact .inl ⟨vs, h, rfl⟩
  | T a => exact .inr ⟨vs, h, rfl⟩
theorem sat_lenV {i : Nat} : Sat C (tCB (rLen C.K) (tCons (tVar i) tNil)) (lenV i) := by
  intro N σ H B g Q R q
  unfold lenV at q
  cases e : seqAt g i with
  | none => rw [e] at q; exact q.elim
  | some xs =>
    rw [e] at q
    obtain ⟨sq, vs, e1, hq, r⟩ := R.seqAt e
    exact ⟨_, e1, _, vs.length, rfl, lenV_sq hq, q _ H B R (.refl _) (by rw [r.length]; exact .int _)⟩
def lenD (ds : List D) : Option D := match ds with
  | [.str x] => if x.length ≤ sizeLine then some (.int (x.length : Nat)) else none
  | [d] => (seqD d).map fun xs => .int (xs.length : Nat)
  | _ => none
theorem vn_len : VN C (rLen C.K) lenD := by
  intro H B xs ds d Q L r e q
  cases r with
  | nil => cases e
  | cons a b =>
    cases b with
    | cons _ _ => cases a <;> cases e
    | nil =>
      rename_i v d0
      have go : ∀ ys, seqD d0 = some ys → some (PyData.int (ys.length : Nat)) = some d → ∃ x n, [v] = [x] ∧ LenV C.K x H n ∧ Q (.int n) H := fun ys ey ed => by
        cases ed
        obtain ⟨sq, vs, rfl, hq, rr⟩ := a.seq ey
        exact ⟨_, vs.length, rfl, lenV_sq (Sq.le L hq), q _ H B .refl (by rw [rr.length]; exact .int _)⟩
      cases a with
      | str x =>
        obtain ⟨hl, rfl⟩ := if_some (show (if x.length ≤ sizeLine then some (PyData.int (x.length : Nat)) else none) = some d from e)
        exact ⟨_, x.length, rfl, ⟨hl, rfl⟩, q _ H B .refl (.int _)⟩
      | lst hb rr => exact go _ rfl e
      | tup hb rr => exact go _ rfl e
      | _ => cases e
/-- x[k] -/
def ixV (i : Nat) (f : M D) : M D := fun g => match seqAt g i with
  | some _ => bindM f (fun k g' => match seqAt g' i, k with
    | some xs, .int j => liftO (L2.atI xs j) g'
    | _, _ => .bad) g
  | none => .bad
theorem sat_ixV {i : Nat} {tb : TE} {f : M D} (h : Sat C tb f) : Sat C (tOp (rIx C.K) (tVar i) tb) (ixV i f) := by
  intro N σ H B g Q R q
  unfold ixV at q
  cases e : seqAt g i with
  | none => rw [e] at q; exact q.elim
  | some xs =>
    rw [e] at q
    obtain ⟨sq, vs, e1, hq, r⟩ := R.seqAt e
    refine ⟨_, e1, ?_⟩
    refine h.run (P := fun x => Fin C N σ B x Q) R q (fun n ct z => z) (fun z => z) fun d g' v H1 B1 _ R1 L1 rp1 q1 => ?_
    cases e2 : seqAt g' i with
    | none => simp only [e2] at q1; exact q1.elim
    | some ys =>
      simp only [e2] at q1
      obtain ⟨sq2, ws, e3, hq2, r2⟩ := R1.seqAt e2
      rw [e1] at e3
      have ea : Sq.a sq = Sq.a sq2 := by injection e3 with z; injection z with z; injection z
      cases d with
      | int j =>
        cases rp1
        obtain ⟨d3, e4, q3⟩ := lift_fin R1 L1 q1
        obtain ⟨u, e5, rp⟩ := r2.atI e4
        rw [ea]
        cases sq2 with
        | L a => exact .inl ⟨_, ws, j, u, rfl, rfl, hq2, e5, q3 _ _ _ .refl rp⟩
        | T a => exact .inr (.inl ⟨_, ws, j, u, rfl, rfl, hq2, e5, q3 _ _ _ .refl rp⟩)
      | _ => exact q1.elim
/-- an own list changes: the place's list is another one from now on -/
theorem Rep.write {N : An} {σ : St} {H B : Hp} {g : Sg} (R : Rep C N σ H B g) {i : Nat} {s s' : Slot} {p : Addr} {o : HO} (hi : g.sl[i]? = some s) (hs : s.isOwn = true) (hp : σ[i]? = some (some (.ref p))) (hB : B p = none)
    (hr : RepSlot C B (upd H p o) s' (some (.ref p))) : Rep C N σ (upd H p o) B { g with sl := g.sl.set i s' } := by
  have h0 : N.H0 p = none := R.ownNew i p ⟨s, hi, hs⟩ hp
  have R1 : Rep C N σ H B { g with sl := g.sl.set i .no } := R.put i rfl rfl (fun _ _ => rfl) trivial
  have so : ∀ j : Nat, ownAt (g.sl.set i Slot.no) j → σ[j]? ≠ some (some (.ref p)) := fun j hj e => by
    rcases ownAt_set hj with ⟨_, z⟩ | ⟨z1, hj⟩
    · cases z
    · exact R.sep i j p (Ne.symm z1) ⟨s, hi, hs⟩ hj hp e
  have R2 := R1.mut (o := o) hB h0 so
  have R3 := R2.setOwn i (s := s') hr h0 so
  have hil : i < σ.length := (List.getElem?_eq_some_iff.mp hp).1
  have e1 : σ.set i (some (.ref p)) = σ := by
    apply List.ext_getElem?
    intro j
    by_cases e : i = j
    · subst e; rw [List.getElem?_set_self hil, hp]
    · rw [List.getElem?_set_ne e]
  rw [e1] at R3
  simpa [List.set_set] using R3
/-- x.append(e) -/
def appM (i : Nat) (f : M D) : M Fl := fun g => match g.sl[i]? with
  | some (.own _) => bindM f (fun d g' => match g'.sl[i]? with
    | some (.own xs) => if xs.length < sizeLine then .ok .next { g' with sl := g'.sl.set i (.own (xs ++ [d])) } else .bad
    | _ => .bad) g
  | _ => .bad
theorem satS_app {i : Nat} {te : TE} {f : M D} (h : Sat C te f) : SatS C (tDrop (tBM C.K "list" rAppend (tVar i) (tCons te tNil))) (appM i f) := by
  intro N σ H B g D R q
  unfold appM at q
  cases e : g.sl[i]? with
  | none => rw [e] at q; exact q.elim
  | some s =>
    rw [e] at q
    cases s with
    | own xs0 =>
      obtain ⟨p, vs0, e1, n0, hH0, r0⟩ := R.slots i _ e
      refine ⟨_, getD_some e1, .inl ⟨rfl, _, SqL.of hH0⟩, ?_⟩
      refine h.toS R q fun d g' v H1 B1 _ R1 L1 rp1 q1 => ?_
      cases e2 : g'.sl[i]? with
      | none => simp only [e2] at q1; exact q1.elim
      | some s =>
        simp only [e2] at q1
        cases s with
        | own xs =>
          obtain ⟨p', vs, e3, n, hH, r⟩ := R1.slots i _ e2
          rw [e1] at e3
          cases e3
          by_cases hl : xs.length < sizeLine
          · simp only [hl, if_true] at q1
            refine ⟨p, vs, v, rfl, rfl, hH, by rw [r.length]; exact hl, ?_⟩
            exact q1 σ _ B1 (R1.write e2 rfl (getD_some e1) n ⟨p, _, rfl, n, upd_same, r.append (.one rp1)⟩) L1
          · simp only [hl, if_false] at q1; exact q1.elim
        | _ => exact q1.elim
    | _ => exact q.elim
/-- x.extend(e), e a list -/
def extM (i : Nat) (f : M D) : M Fl := fun g => match g.sl[i]? with
  | some (.own _) => bindM f (fun d g' => match g'.sl[i]?, d with
    | some (.own xs), .list ys => if xs.length + ys.length ≤ sizeLine then .ok .next { g' with sl := g'.sl.set i (.own (xs ++ ys)) } else .bad
    | _, _ => .bad) g
  | _ => .bad
theorem satS_ext {i : Nat} {te : TE} {f : M D} (h : Sat C te f) : SatS C (tDrop (tBM C.K "list" rExtend (tVar i) (tCons te tNil))) (extM i f) := by
  intro N σ H B g D R q
  unfold extM at q
  cases e : g.sl[i]? with
  | none => rw [e] at q; exact q.elim
  | some s =>
    rw [e] at q
    cases s with
    | own xs0 =>
      obtain ⟨p, vs0, e1, n0, hH0, r0⟩ := R.slots i _ e
      refine ⟨_, getD_some e1, .inl ⟨rfl, _, SqL.of hH0⟩, ?_⟩
      refine h.toS R q fun d g' v H1 B1 _ R1 L1 rp1 q1 => ?_
      cases e2 : g'.sl[i]? with
      | none => simp only [e2] at q1; exact q1.elim
      | some s =>
        simp only [e2] at q1
        cases s with
        | own xs =>
          cases rp1 with
          | lst hb rb =>
            rename_i b ws ys _
            obtain ⟨p', vs, e3, n, hH, r⟩ := R1.slots i _ e2
            rw [e1] at e3
            cases e3
            by_cases hl : xs.length + ys.length ≤ sizeLine
            · simp only [hl, if_true] at q1
              refine ⟨p, b, vs, ws, rfl, rfl, hH, R1.sub _ _ hb, by rw [r.length, rb.length]; exact hl, ?_⟩
              exact q1 σ _ B1 (R1.write e2 rfl (getD_some e1) n ⟨p, _, rfl, n, upd_same, r.append rb⟩) L1
            · simp only [hl, if_false] at q1; exact q1.elim
          | _ => exact q1.elim
        | _ => exact q1.elim
    | _ => exact q.elim
/-- x.pop(k) -/
def popM (i : Nat) (f : M D) : M D := fun g => match g.sl[i]? with
  | some (.own _) => bindM f (fun d g' => match g'.sl[i]?, d with
    | some (.own xs), .int k => if -(2 ^ 63) ≤ k ∧ k < 2 ^ 63 then (match seqIndex? k xs.length with
      | some j => (match xs[j]? with
        | some y => .ok y { g' with sl := g'.sl.set i (.own (xs.eraseIdx j)) }
        | none => .bad)
      | none => .bad) else .bad
    | _, _ => .bad) g
  | _ => .bad
theorem sat_pop {i : Nat} {te : TE} {f : M D} (h : Sat C te f) : Sat C (tBM C.K "list" rPopAt (tVar i) (tCons te tNil)) (popM i f) := by
  intro N σ H B g Q R q
  unfold popM at q
  cases e : g.sl[i]? with
  | none => rw [e] at q; exact q.elim
  | some s =>
    rw [e] at q
    cases s with
    | own xs0 =>
      obtain ⟨p, vs0, e1, n0, hH0, r0⟩ := R.slots i _ e
      refine ⟨_, getD_some e1, .inl ⟨rfl, _, SqL.of hH0⟩, ?_⟩
      refine h.run (P := fun x => Fin C N σ B x Q) R q (fun n ct z => z) (fun z => z) fun d g' v H1 B1 _ R1 L1 rp1 q1 => ?_
      cases e2 : g'.sl[i]? with
      | none => simp only [e2] at q1; exact q1.elim
      | some s =>
        simp only [e2] at q1
        cases s with
        | own xs =>
          cases rp1 with
          | int k =>
            obtain ⟨p', vs, e3, n, hH, r⟩ := R1.slots i _ e2
            rw [e1] at e3
            cases e3
            by_cases hk : -(2 ^ 63) ≤ k ∧ k < 2 ^ 63
            · simp only [hk, and_self, if_true] at q1
              cases e4 : seqIndex? k xs.length with
              | none => simp only [e4] at q1; exact q1.elim
              | some j =>
                simp only [e4] at q1
                cases e5 : xs[j]? with
                | none => simp only [e5] at q1; exact q1.elim
                | some y =>
                  simp only [e5] at q1
                  obtain ⟨w, e6, rp⟩ := r.get' e5
                  refine ⟨p, vs, k, j, w, rfl, rfl, hH, hk.1, hk.2, by rw [r.length]; exact e4, e6, ?_⟩
                  exact q1 w _ B1 (R1.write e2 rfl (getD_some e1) n ⟨p, _, rfl, n, upd_same, r.eraseIdx j⟩) L1 rp
            · simp only [hk, if_false] at q1; exact q1.elim
          | _ => exact q1.elim
        | _ => exact q1.elim
    | _ => exact q.elim
/-- x.pop() -/
def pop0M (i : Nat) : M D := fun g => match g.sl[i]? with
  | some (.own xs) => (match xs[xs.length - 1]? with
    | some y => .ok y { g with sl := g.sl.set i (.own xs.dropLast) }
    | none => .bad)
  | _ => .bad
theorem Rps.dropLast : ∀ {K : PySem.W.Frag} {B : Hp} {vs : List V} {ds : List D}, Rps K B vs ds → Rps K B vs.dropLast ds.dropLast := fun {K B vs ds} r => by
  rw [List.dropLast_eq_take, List.dropLast_eq_take, r.length]; exact r.take _
theorem sat_pop0 {i : Nat} : Sat C (tBM0 C.K "list" rPop (tVar i)) (pop0M i) := by
  intro N σ H B g Q R q
  unfold pop0M at q
  cases e : g.sl[i]? with
  | none => rw [e] at q; exact q.elim
  | some s =>
    rw [e] at q
    cases s with
    | own xs =>
      obtain ⟨p, vs, e1, n, hH, r⟩ := R.slots i _ e
      cases e5 : xs[xs.length - 1]? with
      | none => simp only [e5] at q; exact q.elim
      | some y =>
        simp only [e5] at q
        obtain ⟨w, e6, rp⟩ := r.get' e5
        refine ⟨_, getD_some e1, .inl ⟨rfl, _, SqL.of hH⟩, p, vs, w, rfl, rfl, hH, by rw [r.length]; exact e6, ?_⟩
        exact q w _ B (R.write e rfl (getD_some e1) n ⟨p, _, rfl, n, upd_same, r.dropLast⟩) (.refl _) rp
    | _ => exact q.elim
end
end DL

set_option Elab.async false
set_option linter.all false
set_option maxRecDepth 100000
set_option maxHeartbeats 4000000
/-! DL8: dicts whose keys are tuples: comprehensions, displays of one pair; own dicts as data -/
namespace DL
open PySem PySem.Spec L2
open PyProof.Rows hiding St

/-! ### {k: v for ..}, the keys tuples -/
section
variable {X : Cx}
/-- a pair stored by a comprehension -/
theorem keep_pair {pins : List (Addr × Obj)} {σ : St} {H : Hp} {s : Shared} {E : Value → Shared → Prop} {p b : Addr} {kvs : List (List Key × V)} {k : List Key} {v : V} {r : Value} {Q : Unit → Shared → Prop} (hu : X.A.units + 1 < cLine) (I : Inv X pins σ H s)
    (hp : H p = some (.dT kvs)) (hb : H b = some (.tup (k.map kV))) (hz : kvs.length < sizeLine) (rv : RelV v r) (q : ∀ s', Inv X pins σ (upd H p (.dT (putK kvs k v))) s' → Q () s') : wpAny (model X.prog X.w) X.A (dictSet p (.ref b) r) Q E s := by
  obtain ⟨z, hd, xs, rel, dd⟩ := dt_of I.hok hp
  have few : xs.length ≤ sizeLine := (Paired.length rel).symm ▸ z
  have few' : (putK kvs k v).length ≤ sizeLine := Nat.le_trans (length_putK kvs k v) hz
  refine wpAny_dictSet_heap (hsz := few) (show X.A.units < cLine from Nat.lt_of_succ_lt hu) (key_of I.hok hb) dd fun h' ⟨o, es, ep, e1, e2, e3, e4, _, e5⟩ same => q _ ?_
  refine d_write I (by rw [hp]; trivial) same ⟨o, e1⟩ ⟨few', hd, _, (rel.put k hb rv).keeps fun c ys ec => ?_, o, es, ep, e1, e2, e3, e4, e5⟩
  exact (upd_ne (ne_of ec hp (fun z => nomatch z))).trans ec
def tDcT (wi : TI) (g : TG) (tt : TT) (tk tv : TE) (vs : List Nat) : TE := fun σ H Q => wi σ H fun J H1 => ∀ D, H1 D = none → ∃ W : Nat → Nat → Hp → Prop, (∃ m, W 0 m (upd H1 D (.dT []))) ∧ ∀ i m H, W i m H →
  (J.stop i H ∧ Q (.ref D) H) ∨ (J.go i H ∧ ∃ Nx : Hp → Prop, (∀ H', Nx H' → ∃ m', m' < m ∧ W (i + 1) m' H') ∧ ∀ x H', J.yld i H x H' → g x (wipe σ vs) H' fun σ2 H2 => wipe σ2 vs = wipe σ vs ∧ tt σ2 H2 fun b H3 =>
    if b = true then tk σ2 H3 fun y H4 => tv σ2 H4 fun z H5 => ∃ kvs k c, y = .ref c ∧ H5 c = some (.tup (k.map kV)) ∧ H5 D = some (.dT kvs) ∧ kvs.length < sizeLine ∧ Nx (upd H5 D (.dT (putK kvs k z))) else Nx H3)
/-- what a comprehension's block is told of its iterator's own cells, through the block -/
theorem blk_cells {s : Shared} {H : Hp} {scope : Scope} {ce : Env} {fp : List Addr} {σ : St} {H' : Hp} {s' : Shared} (I : Inv (X.blk s H scope ce fp) [] σ H' s') (hn : ∀ b ∈ fp, H' b = none) : ∀ b ∈ fp, FpOk (X.blk s H scope ce fp) [] H' b :=
  fun b hb => ⟨hn b hb, (I.ok.exf b hb).1, I.ok.exfs b hb, .inl hb, fun x c e => (I.ok.exf b hb).2 x c e, fun p hp => nomatch (show p ∈ ([] : List (Addr × Obj)) from hp)⟩
theorem dcT_core {pins : List (Addr × Obj)} {s : Shared} {σ : St} {H : Hp} {Q : VK} {use : Option (Value → Sem Unit)} {Qf : Value → Shared → Prop} {pos' : Pos} {kx vx tg iter : Expr} {ifs : List Expr} {scope : Scope} {own : List (Str × Nat)} {pos : Pos} {wi : TI} {g : TG} {tt : TT} {tk tv : TE} (hu : X.A.units + 1 < cLine) (hc : X.calm = true) (hN : X.N.Nodup) (I : Inv X pins σ H s) (hi : PI X tg iter wi) (ok : BlkOk X.N X.env.scope scope own)
    (hg : ∀ (s : Shared) (H : Hp) (C : Addr) (cl : List (Str × Addr)) (fp : List Addr), PG (X.blk s H scope (compEnvC scope cl C X.env) fp) tg g) (ht : ∀ (s : Shared) (H : Hp) (C : Addr) (cl : List (Str × Addr)) (fp : List Addr), PTs (X.blk s H scope (compEnvC scope cl C X.env) fp) ifs tt)
    (hk : ∀ (s : Shared) (H : Hp) (C : Addr) (cl : List (Str × Addr)) (fp : List Addr), PE (X.blk s H scope (compEnvC scope cl C X.env) fp) kx tk)
    (he : ∀ (s : Shared) (H : Hp) (C : Addr) (cl : List (Str × Addr)) (fp : List Addr), PE (X.blk s H scope (compEnvC scope cl C X.env) fp) vx tv) (hs : ∀ x, foldedSetIterable iter X.env x = pure x) (h : tDcT wi g tt tk tv (own.map (·.2)) σ H Q)
    (hRR : ∀ D C s' m H', Inv X pins σ H' s' → Q (.ref D) H' → s'.heap.Ns C m → FpOk X pins H' C → compPost (model X.prog X.w) X.A X.xe use Qf (.ref D) C (.ok .next) s') :
    wpAny (model X.prog X.w) X.A (comprehension (.DictComp kx vx [⟨tg, iter, ifs, 0⟩] scope pos) scope X.env pos' newDict false (eval iter X.env) use) Qf X.xe s := by
  have hfree : ∀ y ∈ scope.names, y.2 = .free → ∃ c, X.env.cells.lookup y.1 = some c := fun y hy e => (ok.free y hy e).elim (fun k => I.ok.has _ (.inl k)) fun k => I.ok.has _ (.inr k)
  refine wpAny_comprehension_free (use := use) rfl hs (closure_ok hfree) ok.kind (fun y hy e => by rw [ok.uniq y hy, e]) (thn (hi.run pins s σ H _ I h) fun xv s1 hx => thn hx fun itv s2 h2 => ?_)
  obtain ⟨it, fp, tn, J, H2, rfl, I2, T, st2, f2, q⟩ := h2
  refine wpAny_newObj_type (newEnv_comp ?_)
  have hDn : H2 s2.heap.objs.size = none := I2.hok.fresh (Nat.le_refl _)
  obtain ⟨W, ⟨m0, w0⟩, turn⟩ := q _ hDn
  have I3 : Inv X pins σ (upd H2 s2.heap.objs.size (.dT [])) { s2 with heap := s2.heap.push { cls := .type "dict", data := .dict #[] } } :=
    I2.laid (t' := s2.toks) (fun b o e => Heap.get?_push_of_some _ e) (Nat.le_refl _) (dt_empty s2.heap I2.big)
  have old : ∀ b ∈ fp, b < s2.heap.objs.size := fun b hb => let ⟨_, e, _⟩ := T.obj _ _ st2 b hb; Heap.lt_size e
  generalize hD : s2.heap.objs.size = D at *
  generalize hs3 : ({ s2 with heap := s2.heap.push { cls := .type "dict", data := .dict #[] } } : Shared) = s3 at *
  have h3 : s3.heap = s2.heap.push { cls := .type "dict", data := .dict #[] } := by rw [← hs3]
  have f3 : ∀ b ∈ fp, FpOk X pins (upd H2 D (.dT [])) b ∧ b < s3.heap.objs.size := fun b hb => by
    have lt := old b hb
    exact ⟨⟨(upd_ne (Nat.ne_of_lt lt)).trans (f2 b hb).1, (f2 b hb).2⟩, by rw [h3, Heap.size_push, hD]; exact Nat.lt_succ_of_lt lt⟩
  have st3 : tn 0 s3.heap := T.keep _ _ _ st2 fun b _ o e => by rw [h3]; exact Heap.get?_push_of_some _ e
  have I4 := block_start I3 ok hN f3
  have pg := hg s3 (upd H2 D (.dT [])) s3.heap.objs.size (cellsFrom (s3.heap.objs.size + 1) scope.names (cloFrom X.env.cells scope.names [])) fp
  have pt := ht s3 (upd H2 D (.dT [])) s3.heap.objs.size (cellsFrom (s3.heap.objs.size + 1) scope.names (cloFrom X.env.cells scope.names [])) fp
  have pk := hk s3 (upd H2 D (.dT [])) s3.heap.objs.size (cellsFrom (s3.heap.objs.size + 1) scope.names (cloFrom X.env.cells scope.names [])) fp
  have pe := he s3 (upd H2 D (.dT [])) s3.heap.objs.size (cellsFrom (s3.heap.objs.size + 1) scope.names (cloFrom X.env.cells scope.names [])) fp
  have nfp : ∀ b ∈ fp, (upd H2 D (.dT [])) b = none := fun b hb => (f3 b hb).1.1
  show codeAny _ _ (.compStart (.DictComp kx vx [⟨tg, iter, ifs, 0⟩] scope pos) 0 (.ref it) (.ref D) (compEnvC scope (cellsFrom (s3.heap.objs.size + 1) scope.names (cloFrom X.env.cells scope.names [])) s3.heap.objs.size X.env)) (compPost (model X.prog X.w) X.A X.xe use Qf (.ref D) s3.heap.objs.size) { s3 with heap := pushCells (s3.heap.push { cls := .type "dict", data := .dict #[] }) scope.names }
  generalize hce : compEnvC scope (cellsFrom (s3.heap.objs.size + 1) scope.names (cloFrom X.env.cells scope.names [])) s3.heap.objs.size X.env = ce at I4 pg pt pk pe ⊢
  have cL : ce.locals = s3.heap.objs.size := by subst hce; rfl
  generalize hH3 : upd H2 D (.dT []) = H3 at I3 I4 pg pt pk pe w0 nfp f3
  generalize hs4 : ({ s3 with heap := pushCells (s3.heap.push { cls := .type "dict", data := .dict #[] }) scope.names } : Shared) = s4 at I4 ⊢
  have st4 : tn 0 s4.heap := T.keep _ _ _ st3 fun b _ o e => by rw [← hs4]; exact pushCells_keeps _ _ _ _ (Heap.get?_push_of_some _ e)
  have loop : codeAny (model X.prog X.w) X.A (.compLoop (.DictComp kx vx [⟨tg, iter, ifs, 0⟩] scope pos) 0 (.ref it) (.ref D) ce) (compPost (model X.prog X.w) X.A X.xe use Qf (.ref D) s3.heap.objs.size) s4 := by
    refine compLoop_anyD (fun n s' => ∃ i H', Inv (X.blk s3 H3 scope ce fp) [] (wipe σ (own.map (·.2))) H' s' ∧ tn i s'.heap ∧ (∀ b ∈ fp, H' b = none) ∧ W i n H') ?_ m0 ⟨0, H3, I4, st4, nfp, w0⟩
    rintro n s5 ⟨i, H5, I5, st5, n5, w5⟩
    rcases turn i n H5 w5 with ⟨stop, qq⟩ | ⟨go, Nx, hNx, step⟩
    · refine thnF (T.done (X.blk s3 H3 scope ce fp) rfl rfl rfl hc i [] s5 _ H5 (fun _ _ => False) I5 (blk_cells I5 n5) st5 stop) fun r s6 ⟨hr, I6⟩ => ?_
      subst hr
      have I7 : Inv X pins σ H5 s6 := I3.call' (ch := fp) I6.os I6.base I6.hok I6.bare fun b hb => let z := (f3 b hb).1; ⟨z.2.2.2.1, z.2.1, z.2.2.2.2.1, z.2.2.2.2.2⟩
      have nC : H5 s3.heap.objs.size = none := cL ▸ (show H5 ce.locals = none from I6.free)
      obtain ⟨m, hn, _⟩ := I6.loc
      have hn : s6.heap.Ns s3.heap.objs.size m := cL ▸ (show s6.heap.Ns ce.locals m from hn)
      exact hRR D s3.heap.objs.size s6 m H5 I7 qq hn (I3.fpOk (Nat.le_refl _) nC)
    · refine thnF (T.item (X.blk s3 H3 scope ce fp) rfl rfl rfl hc i [] s5 _ H5 (fun _ _ => False) I5 (blk_cells I5 n5) st5 go) fun r s6 ⟨u, hr, h6⟩ => ?_
      subst hr
      refine thnF h6 fun _ s7 ⟨x, H7, I7, r7, y7, st7, n7⟩ => ?_
      refine thnF (pg.run _ s7 _ H7 x u _ (I7.pinned (blk_cells I7 n7) (T.obj _ _ st7)) r7 (step x H7 y7)) fun _ s8 ⟨σ8, H8, I8, hw8, q8⟩ => ?_
      refine thnF (pt.run _ s8 σ8 H8 _ I8 q8) fun b s9 ⟨H9, I9, q9⟩ => ?_
      have fin : ∀ {s' : Shared} {H' : Hp}, Inv (X.blk s3 H3 scope ce fp) ([] ++ pinsAt fp s7.heap) σ8 H' s' → Nx H' → ∃ m, m < n ∧ ∃ i H', Inv (X.blk s3 H3 scope ce fp) [] (wipe σ (own.map (·.2))) H' s' ∧ tn i s'.heap ∧ (∀ b ∈ fp, H' b = none) ∧ W i m H' := fun {s' H'} I' nx => by
        obtain ⟨m', hm, w'⟩ := hNx H' nx
        have pin' : ∀ b ∈ fp, ∀ o, s7.heap.get? b = some o → s'.heap.get? b = some o ∧ H' b = none := fun b hb o e =>
          have z := I'.pin (b, o) (List.mem_append_right _ (List.mem_append_right _ (mem_pinsAt hb e)))
          ⟨z.1, z.2.1⟩
        refine ⟨m', hm, i + 1, H', (I'.unpinned (pins := [])).weak (by rw [← hw8, wipe_length]) (fun j v e => (wipe_some (hw8 ▸ e)).1), T.keep _ _ _ st7 fun b hb o e => (pin' b hb o e).1, fun b hb => ?_, w'⟩
        obtain ⟨o, e, _⟩ := T.obj _ _ st7 b hb
        exact (pin' b hb o e).2
      cases b with
      | false =>
        rw [if_neg Bool.false_ne_true] at q9 ⊢
        exact fin I9 q9
      | true =>
        rw [if_pos rfl] at q9 ⊢
        refine thnF (pk.run _ s9 σ8 H9 _ I9 q9) fun z s10 ⟨yk, H10, I10, r10, q10⟩ => ?_
        refine thnF (pe.run _ s10 σ8 H10 _ I10 q10) fun z2 s11 ⟨yv, H11, I11, r11, kvs, k, c, ek, hk11, hD11, hz11, nx⟩ => ?_
        subst ek
        cases r10
        exact keep_pair (X := X.blk s3 H3 scope ce fp) hu I11 hD11 hk11 hz11 r11 fun s12 I12 => fin I12 nx
  exact codeAny_compStart_dict loop (T.self X.A 0 _ _ _ st4 loop)
theorem pe_dcT {kx vx tg iter : Expr} {ifs : List Expr} {scope : Scope} {own : List (Str × Nat)} {pos : Pos} {wi : TI} {g : TG} {tt : TT} {tk tv : TE} (hu : X.A.units + 1 < cLine) (hc : X.calm = true) (hN : X.N.Nodup) (hi : PI X tg iter wi) (ok : BlkOk X.N X.env.scope scope own)
    (hg : ∀ (s : Shared) (H : Hp) (C : Addr) (cl : List (Str × Addr)) (fp : List Addr), PG (X.blk s H scope (compEnvC scope cl C X.env) fp) tg g) (ht : ∀ (s : Shared) (H : Hp) (C : Addr) (cl : List (Str × Addr)) (fp : List Addr), PTs (X.blk s H scope (compEnvC scope cl C X.env) fp) ifs tt)
    (hk : ∀ (s : Shared) (H : Hp) (C : Addr) (cl : List (Str × Addr)) (fp : List Addr), PE (X.blk s H scope (compEnvC scope cl C X.env) fp) kx tk)
    (he : ∀ (s : Shared) (H : Hp) (C : Addr) (cl : List (Str × Addr)) (fp : List Addr), PE (X.blk s H scope (compEnvC scope cl C X.env) fp) vx tv) (hs : ∀ x, foldedSetIterable iter X.env x = pure x := by intro _; rfl) :
    PE X (.DictComp kx vx [⟨tg, iter, ifs, 0⟩] scope pos) (tDcT wi g tt tk tv (own.map (·.2))) := by
  refine ⟨fun pins s σ H Q I h => ?_⟩
  rw [arm_eval_DictComp]
  refine dcT_core hu hc hN I hi ok hg ht hk he hs h fun D C s' m H' I' q hn f => ⟨m, hn, fun h'' sb => ?_⟩
  obtain ⟨f0, f1, f2, f3, f4, f5⟩ := f
  exact ⟨.ref D, H', I'.turned (t' := s'.toks) (fun b o hb e => (sb.2 b hb).trans e) f0 f1 f3 f4 f5, rfl, q⟩
theorem sw_trueD {kx vx : Expr} {gs : List Comprehension} {scope : Scope} {pos py : Pos} {y : Str} {l : Nat} {env : Env} (hk : env.scope.kind = .function) (hy : env.scope.names.lookup y = some .local) (hl : (py.line == pos.line) = true)
    (ha : (scope.names.any fun (n, k) => n == y && (k == .local || k == .cell)) = false) : swapsWith (.DictComp kx vx gs scope pos) (some (.Name y py)) l env = pure true := by
  have ky : env.kindOf y = some .local := hy
  have hb : env.blockKind = .function := by unfold Env.blockKind; rw [hk]; rfl
  unfold swapsWith
  simp only [hb, ky, ha, Expr.pos, hl]
  rfl
theorem ps_setDcT {i : Nat} {y : Str} {py spos : Pos} {kx vx tg iter : Expr} {ifs : List Expr} {scope : Scope} {own : List (Str × Nat)} {pos : Pos} {wi : TI} {g : TG} {tt : TT} {tk tv : TE} (hu : X.A.units + 1 < cLine) (hc : X.calm = true) (hN : X.N.Nodup) (hy : X.N[i]? = some y) (hyl : X.env.scope.names.lookup y = some .local) (hsw : swapsWith (.DictComp kx vx [⟨tg, iter, ifs, 0⟩] scope pos) (some (.Name y py)) spos.line X.env = pure true) (hi : PI X tg iter wi) (ok : BlkOk X.N X.env.scope scope own)
    (hg : ∀ (s : Shared) (H : Hp) (C : Addr) (cl : List (Str × Addr)) (fp : List Addr), PG (X.blk s H scope (compEnvC scope cl C X.env) fp) tg g) (ht : ∀ (s : Shared) (H : Hp) (C : Addr) (cl : List (Str × Addr)) (fp : List Addr), PTs (X.blk s H scope (compEnvC scope cl C X.env) fp) ifs tt)
    (hk : ∀ (s : Shared) (H : Hp) (C : Addr) (cl : List (Str × Addr)) (fp : List Addr), PE (X.blk s H scope (compEnvC scope cl C X.env) fp) kx tk)
    (he : ∀ (s : Shared) (H : Hp) (C : Addr) (cl : List (Str × Addr)) (fp : List Addr), PE (X.blk s H scope (compEnvC scope cl C X.env) fp) vx tv) (hs : ∀ x, foldedSetIterable iter X.env x = pure x := by intro _; rfl) :
    PS X (.Assign [.Name y py] (.DictComp kx vx [⟨tg, iter, ifs, 0⟩] scope pos) spos) (tAsg (tDcT wi g tt tk tv (own.map (·.2))) (gName i)) := by
  refine ⟨fun pins s σ H D I h => ?_⟩
  rw [exec_Assign_Name_used _ _ _ _ hsw]
  refine wpAny_bind (wpAny_standAt (wpAny_bind ?_))
  show wpAny _ X.A (do let _ ← comprehension (.DictComp kx vx [⟨tg, iter, ifs, 0⟩] scope pos) scope X.env (firstIterPos [⟨tg, iter, ifs, 0⟩] pos) newDict false (eval iter X.env) (some (assign (.Name y py) X.env))) _ _ s
  have h : tDcT wi g tt tk tv (own.map (·.2)) σ H (fun x H1 => gName i x σ H1 D.nx) := h
  refine wpAny_bind (thn (dcT_core (Qf := fun _ s' => SP X pins D .next s') hu hc hN I hi ok hg ht hk he hs h fun L C s' m H' I' q hn f => ?_) fun _ s' hq => wpAny_pure (wpAny_pure hq))
  obtain ⟨f0, f1, f2, f3, f4, f5⟩ := f
  refine wpAny_assign_Name (store_ok2 (v := V.ref L) I' hN hy (.inl hyl) rfl (fun s2 I2 ⟨a, sb, ha⟩ => ⟨m, hn.sameBut sb fun e => ha.elim (fun z => f1 (e.trans z)) fun z => f4 y a z e.symm, fun h3 sb3 => ?_⟩) (.inr hyl))
  exact ⟨_, H', I2.turned (t' := s2.toks) (fun b o hb e => (sb3.2 b hb).trans e) f0 f1 f3 f4 f5, q⟩
/-! ### {k: v}, k a tuple -/
def tDisp1 (tk tv : TE) : TE := fun σ H Q => ∀ p, H p = none → tk σ (upd H p (.dT [])) fun x H1 => tv σ H1 fun y H2 => ∃ b ks, x = .ref b ∧ H2 b = some (.tup (ks.map kV)) ∧ H2 p = some (.dT []) ∧ Q (.ref p) (upd H2 p (.dT [(ks, y)]))
theorem pe_disp1 {k v : Expr} {pos : Pos} {tk tv : TE} (hu : X.A.units + 1 < cLine) (hk : PE X k tk) (hv : PE X v tv) : PE X (.Dict [some k] [v] pos) (tDisp1 tk tv) := by
  refine ⟨fun pins s σ H Q I q => ?_⟩
  have hn := I.hok.fresh (Nat.le_refl s.heap.objs.size)
  have I1 := I.laid (a := s.heap.objs.size) (o := .dT []) (h' := s.heap.push { cls := .type "dict", data := .dict #[] }) (t' := s.toks) (fun _ _ q => Heap.get?_push_of_some _ q) (Nat.le_refl _) (dt_empty s.heap I.big)
  have hn1 := pairTrees_length [some k] [v] X.env pos rfl rfl
  have hne : pairTrees [some k] [v] X.env pos ≠ [] := fun e => by rw [e] at hn1; cases hn1
  rw [arm_eval_Dict, zip_pairTrees [some k] [v] X.env pos rfl rfl, dictDisplay_pairs _ hne (by rw [hn1]; show 1 < 17; decide)]
  refine wpAny_bind (wpAny_standAt (wpAny_bind (wpAny_subDictH (knd := tupleKind (mixKind X.prog X.w)) (Q := fun d s' => wpAny (model X.prog X.w) X.A (pure (Value.ref d)) (EP X pins σ Q) X.xe s') (show X.A.units < cLine from Nat.lt_of_succ_lt hu) (by rw [hn1]; show 1 ≤ 15; decide) ?_)))
  have all : PPs X pos [some k] [v] [(tk, tv)] := pps_cons hk hv pps_nil
  refine thn (all.run pins _ σ _ (fun ps H2 => match ps with
    | [(x, y)] => ∃ b ks, x = .ref b ∧ H2 b = some (.tup (ks.map kV)) ∧ H2 s.heap.objs.size = some (.dT []) ∧ Q (.ref s.heap.objs.size) (upd H2 s.heap.objs.size (.dT [(ks, y)]))
    | _ => False) I1 (q _ hn)) fun ws s2 ⟨ps, H2, I2, rel, q2⟩ => ?_
  cases rel with
  | nil => exact q2.elim
  | @cons p wv ps ws r rr =>
    cases rr with
    | cons _ _ => exact q2.elim
    | nil =>
      obtain ⟨x, y⟩ := p
      obtain ⟨w1, w2⟩ := wv
      obtain ⟨b, ks, ex, hb, hp, q3⟩ := q2
      have ex : x = .ref b := ex
      subst ex
      cases (show w1 = Value.ref b from r.1)
      obtain ⟨_, hd, xs, rel0, dd⟩ := dt_of I2.hok hp
      cases rel0
      refine ⟨[(ks, b, w2)], ⟨rfl, rfl, key_of I2.hok hb, trivial⟩, dd, fun h' tk' dd' same => wpAny_pure ⟨.ref s.heap.objs.size, _, ?_, rfl, q3⟩⟩
      obtain ⟨o, es, ep, e1, e2, e3, e4, _, e5⟩ := dd'
      have rel1 : KT H2 [(ks, y)] [(ks, b, w2)] := .cons ⟨rfl, hb, r.2⟩ .nil
      refine d_write (t' := tk') I2 (by rw [hp]; trivial) same ⟨o, e1⟩ ⟨?_, hd, _, rel1.keeps fun c ys ec => (upd_ne (ne_of ec hp (fun z => nomatch z))).trans ec, o, es, ep, e1, e2, e3, e4, e5⟩
      show 1 ≤ sizeLine
      decide
end
end DL

set_option Elab.async false
set_option linter.all false
set_option maxRecDepth 100000
set_option maxHeartbeats 4000000
namespace DL
open PySem PySem.Spec L2
open PyProof.Rows hiding St

section
variable {C : Ctx}
/-! ### a dict with tuple keys that nobody else knows -/
def FinD (C : Ctx) (N : An) (σ : St) (B : Hp) (r : Res (List (List Key × D))) (Q : VK) : Prop := match r with
  | .ok xs g => ∀ p vs H' B', Rep C N σ H' B' g → Le B B' → B' p = none → H' p = some (.dT vs) → RpsT C.K B' vs xs → N.H0 p = none → (∀ j : Nat, ownAt g.sl j → σ[j]? ≠ some (some (.ref p))) → Q (.ref p) H'
  | .exc n ct => ∀ cl H' B', Rep C N σ H' B' ⟨σ.map fun _ => Slot.no, ct⟩ → C.mg n = some (.ref cl) → C.E σ (.ref cl) none H'
  | .bad => False
def SatD (C : Ctx) (t : TE) (f : M (List (List Key × D))) : Prop := ∀ N σ H B g (Q : VK), Rep C N σ H B g → FinD C N σ B (f g) Q → t σ H Q
def dctM (f : M (List (List Key × D))) : M D := bindM f fun ds => pureM (dT ds)
theorem SatD.sat {t : TE} {f : M (List (List Key × D))} (h : SatD C t f) : Sat C t (dctM f) := by
  intro N σ H B g Q R q
  refine h N σ H B g Q R ?_
  have q : Fin C N σ B ((f g).bind fun ds => pureM (dT ds)) Q := q
  cases e : f g with
  | ok xs g' =>
    rw [e] at q
    intro p vs H' B' R' L n hH r h0 hs
    obtain ⟨R2, L2⟩ := R'.share hH n h0 hs
    exact q _ _ _ R2 (L.trans L2) (.dT upd_same (r.le L2) rfl)
  | exc n ct => rw [e] at q; exact q
  | bad => rw [e] at q; exact q
def asgD (f : M (List (List Key × D))) (i : Nat) : M Fl := bindM f fun xs => fun g => .ok .next { g with sl := g.sl.set i (.ownT xs) }
theorem satS_asgD {te : TE} {f : M (List (List Key × D))} {i : Nat} (h : SatD C te f) : SatS C (tAsg te (gName i)) (asgD f i) := by
  intro N σ H B g D R q
  refine h N σ H B g _ R ?_
  have q : FinS C N B ((f g).bind fun xs => fun g => .ok .next { g with sl := g.sl.set i (.ownT xs) }) D := q
  cases e : f g with
  | ok xs g' =>
    rw [e] at q
    intro p vs H' B' R' L n hH r h0 hs
    exact q _ H' B' (R'.setOwn i ⟨p, vs, rfl, n, hH, r⟩ h0 hs) L
  | exc n ct => rw [e] at q; exact fun cl H' B' => q cl σ H' B'
  | bad => rw [e] at q; exact q.elim
theorem satD_new : SatD C tDNewT (pureM []) := fun N σ H B g Q R q p hp =>
  q p [] _ B (R.newl hp) (.refl _) (R.sub_none hp) upd_same .nil (R.fresh hp) fun j hj => R.free_own hp j hj
/-- {k: v} -/
def disp1M (fk fv : M D) : M (List (List Key × D)) := bindM (calmM fk) fun k => bindM (calmM fv) fun v => match toKeyT k with
  | some ks => pureM [(ks, v)]
  | none => fun _ => .bad
theorem satD_disp1 {tk tv : TE} {fk fv : M D} (hk : Sat C.q tk fk) (hv : Sat C.q tv fv) : SatD C (tDisp1 tk tv) (disp1M fk fv) := by
  intro N σ H B g Q R q p hp
  have h0 : N.H0 p = none := R.fresh hp
  refine hk.turn (P := fun x => FinD C N σ B x Q) (R.newl (o := .dT []) hp) upd_same (R.sub_none hp) h0 (fun j hj => R.free_own hp j hj) (fun z => z) q fun k g1 v H1 B1 R1 L1 rp1 hH1 n1 o1 q1 => ?_
  refine hv.turn (P := fun x => FinD C N σ B x Q) R1 hH1 n1 h0 o1 (fun z => z) q1 fun d g2 v2 H2 B2 R2 L2 rp2 hH2 n2 o2 q2 => ?_
  cases e : toKeyT k with
  | none => simp only [e] at q2; exact q2.elim
  | some ks =>
    simp only [e] at q2
    obtain rfl := toKeyT_some e
    cases rp1.le L2 with
    | tup hb rk =>
      rw [rk.keys] at hb
      exact ⟨_, ks, rfl, R2.sub _ _ hb, hH2, q2 p _ _ B2 (R2.mut n2 h0 o2) (L1.trans L2) n2 upd_same (.cons rp2 .nil) h0 o2⟩
/-- {k: v for ..} -/
def dcLoop (k : D → M Unit) (c : M Bool) (ek ev : M D) (vs : List Nat) : List D → List (List Key × D) → M (List (List Key × D))
  | [], acc => afterM vs (pureM acc)
  | x :: r, acc => goG (k x) (bindM (calmM c) fun b => if b = true then (bindM (calmM ek) fun kd => bindM (calmM ev) fun vd => match toKeyT kd with
    | some ks => if acc.length < sizeLine then afterM vs (dcLoop k c ek ev vs r (putD acc ks vd)) else fun _ => .bad
    | none => fun _ => .bad) else afterM vs (dcLoop k c ek ev vs r acc))
def dcM (src : M (List D)) (k : D → M Unit) (c : M Bool) (ek ev : M D) (vs : List Nat) : M (List (List Key × D)) := bindM src fun xs => afterM vs (dcLoop k c ek ev vs xs [])
structure DcS (C : Ctx) (N : An) (τ : St) (p : Addr) (B1 : Hp) (H B : Hp) (g : Sg) (acc : List (List Key × D)) : Prop where
  rep : Rep C N τ H B g
  le : Le B1 B
  own : ∀ j : Nat, ownAt g.sl j → τ[j]? ≠ some (some (.ref p))
  no : B p = none
  dct : ∃ av, H p = some (.dT av) ∧ RpsT C.K B av acc
theorem DcS.back {N : An} {τ σ' : St} {p : Addr} {B1 H B : Hp} {g : Sg} {acc : List (List Key × D)} (h : DcS C N τ p B1 H B g acc) (vs : List Nat) (hl : σ'.length = τ.length) (he : ∀ j : Nat, j ∉ vs → σ'[j]? = τ[j]?) : DcS C N σ' p B1 H B (g.forget vs) acc :=
  ⟨h.rep.other vs hl he, h.le, fun j hj => by
    obtain ⟨a, b⟩ := ownAt_forget hj
    rw [he j a]; exact h.own j b, h.no, h.dct⟩
theorem satD_dc {wi : TI} {tg : TG} {tt : TT} {tk tv : TE} {vs ts : List Nat} {src : M (List D)} {k : D → M Unit} {c : M Bool} {ek ev : M D} (hs : SatI C wi src) (hg : SatG C.q ts tg k) (hc : SatT C.q tt c) (hk : Sat C.q tk ek) (he : Sat C.q tv ev) (hv : ∀ j, j ∈ ts → j ∈ vs) :
    SatD C (tDcT wi tg tt tk tv vs) (dcM src k c ek ev vs) := by
  intro N σ H B g Q R q
  refine hs N σ H B g _ R ?_
  have q : FinD C N σ B ((src g).bind fun xs => afterM vs (dcLoop k c ek ev vs xs [])) Q := q
  cases es : src g with
  | exc n ct => rw [es] at q; exact q
  | bad => rw [es] at q; exact q.elim
  | ok xs g1 =>
    rw [es] at q
    intro J H1 B1 R1 L1 W p hp
    have h0 : N.H0 p = none := R1.fresh hp
    have wl : (wipe σ vs).length = σ.length := wipe_length σ vs
    have S0 : DcS C N (wipe σ vs) p B1 (upd H1 p (.dT [])) B1 (g1.forget vs) [] := by
      refine ⟨(R1.newl (o := .dT []) hp).wipe vs, .refl _, fun j hj => ?_, R1.sub_none hp, [], upd_same, .nil⟩
      obtain ⟨a, b⟩ := ownAt_forget hj
      rw [wipe_off a]; exact R1.free_own hp j b
    refine ⟨fun i m H' => ∃ B' g' acc, i ≤ xs.length ∧ m = xs.length - i ∧ DcS C N (wipe σ vs) p B1 H' B' g' acc ∧ FinD C N σ B (dcLoop k c ek ev vs (xs.drop i) acc g') Q, ⟨xs.length, B1, g1.forget vs, [], Nat.zero_le _, rfl, S0, q⟩, ?_⟩
    rintro i m H2 ⟨B2, g2, acc, hi, rfl, S, q2⟩
    obtain ⟨R2, L2, o2, n2, av, hH2, ra⟩ := id S
    by_cases hlt : i < xs.length
    · have hd : xs.drop i = xs[i] :: xs.drop (i + 1) := List.drop_eq_getElem_cons hlt
      rw [hd] at q2
      refine .inr ⟨W.go i H2 hlt (fun a o z => R2.sub a o (L2 a o z)), fun H' => ∃ B' g' acc, DcS C N (wipe σ vs) p B1 H' B' g' acc ∧ FinD C N σ B (dcLoop k c ek ev vs (xs.drop (i + 1)) acc g') Q, fun H' ⟨B', g', acc', z1, z2⟩ => ⟨_, Nat.sub_lt_sub_left hlt (Nat.lt_succ_self i), B', g', acc', hlt, rfl, z1, z2⟩, fun x H3 y => ?_⟩
      obtain ⟨B3, G, rp⟩ := W.yld i H2 x H3 B2 xs[i] y (by simp [hlt]) L2 R2.sub
      refine hg.turn (P := fun x => FinD C N σ B x Q) (R2.grow G) rp (G.h _ _ hH2) (G.apart n2 hH2) h0 o2 (fun z => z) q2 fun g4 σ4 H4 B4 R4 L4 l4 e4 hH4 n4 o4 q4 => ?_
      have off : ∀ j : Nat, j ∉ vs → σ4[j]? = σ[j]? := fun j hj => (e4 j fun z => hj (hv j z)).trans (wipe_off hj)
      have len4 : σ4.length = σ.length := l4.trans wl
      refine ⟨wipe_eq vs len4 off, ?_⟩
      have off' : ∀ j : Nat, j ∉ vs → (wipe σ vs)[j]? = σ4[j]? := fun j hj => (wipe_off hj).trans (off j hj).symm
      have len4' : (wipe σ vs).length = σ4.length := wl.trans len4.symm
      refine hc.turn (P := fun x => FinD C N σ B x Q) R4 hH4 n4 h0 o4 (fun z => z) q4 fun b g5 H5 B5 R5 L5 hH5 n5 o5 q5 => ?_
      have LL : Le B2 B5 := (G.b.trans L4).trans L5
      cases b with
      | false => exact ⟨B5, _, acc, (DcS.mk R5 (L2.trans LL) o5 n5 ⟨av, hH5, ra.le LL⟩).back vs len4' off', q5⟩
      | true =>
        refine hk.turn (P := fun x => FinD C N σ B x Q) R5 hH5 n5 h0 o5 (fun z => z) q5 fun kd g6 v H6 B6 R6 L6 rp6 hH6 n6 o6 q6 => ?_
        refine he.turn (P := fun x => FinD C N σ B x Q) R6 hH6 n6 h0 o6 (fun z => z) q6 fun vd g7 w H7 B7 R7 L7 rp7 hH7 n7 o7 q7 => ?_
        cases ek' : toKeyT kd with
        | none => simp only [ek'] at q7; exact q7.elim
        | some ks =>
          simp only [ek'] at q7
          obtain rfl := toKeyT_some ek'
          by_cases hz : acc.length < sizeLine
          · simp only [hz, if_true] at q7
            cases rp6.le L7 with
            | tup hb rk =>
              rw [rk.keys] at hb
              have ra7 := ra.le ((LL.trans L6).trans L7)
              refine ⟨av, ks, _, rfl, R7.sub _ _ hb, hH7, by rw [ra.pd.length]; exact hz, B7, _, putD acc ks vd, ?_, q7⟩
              exact (DcS.mk (R7.mut n7 h0 o7) ((L2.trans LL).trans (L6.trans L7)) o7 n7 ⟨_, upd_same, (ra7.pd.put rp7 ks).toT⟩).back vs len4' off'
          · simp only [hz, if_false] at q7; exact q7.elim
    · have hi' : i = xs.length := by omega
      subst hi'
      rw [List.drop_length] at q2
      obtain ⟨R3, L3, o3, n3, av3, hH3, rp3⟩ := S.back vs wl.symm (fun j hj => (wipe_off hj).symm)
      exact .inl ⟨W.stop H2 (fun a o z => R2.sub a o (L2 a o z)), q2 p av3 H2 B2 R3 (L1.trans L3) n3 hH3 rp3 h0 o3⟩

/-! ### own dicts read and written -/
def findV (g : Sg) (i : Nat) (key : D) : Option (Option D) := match g.sl[i]? with
  | some (.ownT kvs) => (toKeyT key).map fun k => valD kvs k
  | some (.ownK kvs) => (toKey key).map fun k => valD kvs k
  | some (.dat d) => findD d key
  | _ => none
def isDict (g : Sg) (i : Nat) : Bool := match g.sl[i]? with
  | some (.ownT _) => true
  | some (.ownK _) => true
  | some (.dat (.dict _)) => true
  | _ => false
theorem Rep.isDict {N : An} {σ : St} {H B : Hp} {g : Sg} (R : Rep C N σ H B g) {i : Nat} (h : DL.isDict g i = true) : ∃ a, σ[i]? = some (some (.ref a)) ∧ IsD H a := by
  unfold DL.isDict at h
  cases e : g.sl[i]? with
  | none => rw [e] at h; cases h
  | some s =>
    rw [e] at h
    have r := R.slots i s e
    cases s with
    | ownT ys => obtain ⟨p, vs, e1, n, hH, rp⟩ := r; exact ⟨p, getD_some e1, .inr ⟨_, .inl hH⟩⟩
    | ownK ys => obtain ⟨p, vs, e1, n, hH, rp⟩ := r; exact ⟨p, getD_some e1, .inl ⟨_, .inl hH⟩⟩
    | dat d =>
      obtain ⟨v, e1, rp⟩ := r
      cases rp with
      | dT ha _ _ => exact ⟨_, getD_some e1, .inr ⟨_, .inl (R.sub _ _ ha)⟩⟩
      | dK ha _ _ => exact ⟨_, getD_some e1, .inl ⟨_, .inl (R.sub _ _ ha)⟩⟩
      | _ => cases h
    | _ => cases h
theorem Rep.findV {N : An} {σ : St} {H B : Hp} {g : Sg} (R : Rep C N σ H B g) {i : Nat} {key : D} {o : Option D} {y : V} (h : DL.findV g i key = some o) (ry : Rp C.K B y key) :
    ∃ a ov, σ[i]? = some (some (.ref a)) ∧ DGet H a y ov ∧ ((ov = none ∧ o = none) ∨ ∃ v e, ov = some v ∧ o = some e ∧ Rp C.K B v e) := by
  unfold DL.findV at h
  cases e : g.sl[i]? with
  | none => rw [e] at h; cases h
  | some s =>
    rw [e] at h
    have r := R.slots i s e
    cases s with
    | ownT kvs =>
      obtain ⟨p, vs, e1, n, hH, rp⟩ := r
      cases ek : toKeyT key with
      | none => rw [ek] at h; cases h
      | some ks =>
        rw [ek] at h
        cases h
        obtain rfl := toKeyT_some ek
        cases ry with
        | tup hb rk =>
          rw [rk.keys] at hb
          refine ⟨p, _, getD_some e1, .t hH (R.sub _ _ hb), ?_⟩
          rcases rp.pd.val ks with ⟨a, b⟩ | ⟨v, d, a, b, c⟩
          · exact .inl ⟨a, b⟩
          · exact .inr ⟨v, d, a, b, c⟩
    | ownK kvs =>
      obtain ⟨p, vs, e1, n, hH, rp⟩ := r
      cases ek : toKey key with
      | none => rw [ek] at h; cases h
      | some ks =>
        rw [ek] at h
        cases h
        obtain rfl := toKey_some ek
        rw [ry.key]
        refine ⟨p, _, getD_some e1, .k hH, ?_⟩
        rcases rp.pd.val ks with ⟨a, b⟩ | ⟨v, d, a, b, c⟩
        · exact .inl ⟨a, b⟩
        · exact .inr ⟨v, d, a, b, c⟩
    | dat d =>
      obtain ⟨v, e1, rp⟩ := r
      obtain ⟨a, ov, rfl, _, g3, hh⟩ := rp.find R.sub ry h
      exact ⟨a, ov, getD_some e1, g3, hh⟩
    | _ => cases h
/-- x[k], x a dict -/
def dgetV (i : Nat) (f : M D) : M D := fun g => if isDict g i = true then bindM f (fun k g' => match findV g' i k with
  | some (some v) => .ok v g'
  | _ => .bad) g else .bad
theorem sat_dgetV {i : Nat} {ty : TE} {f : M D} (h : Sat C ty f) : Sat C (tDGet (tVar i) ty) (dgetV i f) := by
  intro N σ H B g Q R q
  unfold dgetV at q
  by_cases hd : isDict g i = true
  · rw [if_pos hd] at q
    obtain ⟨a, e1, _⟩ := R.isDict hd
    refine ⟨_, e1, ?_⟩
    refine h.run (P := fun x => Fin C N σ B x Q) R q (fun n ct z => z) (fun z => z) fun d g' v H1 B1 _ R1 L1 rp1 q1 => ?_
    cases e : findV g' i d with
    | none => simp only [e] at q1; exact q1.elim
    | some o =>
      obtain ⟨a', ov, e2, g3, hh⟩ := R1.findV e rp1
      rw [e1] at e2
      cases e2
      rcases hh with ⟨rfl, rfl⟩ | ⟨v4, e4, rfl, rfl, rp4⟩
      · simp only [e] at q1; exact q1.elim
      · simp only [e] at q1
        exact ⟨a, v4, rfl, g3, q1 _ _ _ R1 L1 rp4⟩
  · rw [if_neg hd] at q; exact q.elim
/-- x.get(k, z) -/
def dget2V (i : Nat) (f l : M D) : M D := fun g => if isDict g i = true then bindM f (fun k => bindM l fun z g' => match findV g' i k with
  | some o => .ok (o.getD z) g'
  | _ => .bad) g else .bad
theorem sat_dget2V {i : Nat} {ty tx : TE} {f l : M D} (h : Sat C ty f) (h2 : Sat C tx l) : Sat C (tDGet2 (tVar i) ty tx) (dget2V i f l) := by
  intro N σ H B g Q R q
  unfold dget2V at q
  by_cases hd : isDict g i = true
  · rw [if_pos hd] at q
    obtain ⟨a, e1, hI⟩ := R.isDict hd
    refine ⟨_, e1, a, rfl, hI, ?_⟩
    refine h.run (P := fun x => Fin C N σ B x Q) R q (fun n ct z => z) (fun z => z) fun d g' v H1 B1 _ R1 L1 rp1 q1 => ?_
    refine h2.run (P := fun x => Fin C N σ B x Q) R1 q1 (fun n ct z => z) (fun z => z) fun d2 g2 v2 H2 B2 _ R2 L2 rp2 q2 => ?_
    cases e : findV g2 i d with
    | none => simp only [e] at q2; exact q2.elim
    | some o =>
      simp only [e] at q2
      obtain ⟨a', ov, e2, g3, hh⟩ := R2.findV e (rp1.le L2)
      rw [e1] at e2
      cases e2
      refine ⟨ov, g3, ?_⟩
      rcases hh with ⟨rfl, rfl⟩ | ⟨v4, e4, rfl, rfl, rp4⟩
      · exact q2 _ _ _ R2 (L1.trans L2) rp2
      · exact q2 _ _ _ R2 (L1.trans L2) rp4
  · rw [if_neg hd] at q; exact q.elim
/-- k in x, k not in x -/
def dinV (neg : Bool) (i : Nat) (f : M D) : M D := bindM f fun k g' => match findV g' i k with
  | some o => .ok (.bool (if neg then !o.isSome else o.isSome)) g'
  | _ => .bad
theorem dinV_end {N : An} {σ : St} {H B B1 : Hp} {g : Sg} {Q : VK} {neg : Bool} {i : Nat} {key : D} {y : V} (R : Rep C N σ H B1 g) (L : Le B B1) (ry : Rp C.K B1 y key) (q : Fin C N σ B (match findV g i key with
  | some o => .ok (.bool (if neg then !o.isSome else o.isSome)) g
  | _ => .bad) Q) : ∃ v, σ[i]? = some (some v) ∧ ∃ a o, v = .ref a ∧ DGet H a y o ∧ Q (.bl (if neg then !o.isSome else o.isSome)) H := by
  cases e : findV g i key with
  | none => simp only [e] at q; exact q.elim
  | some o =>
    simp only [e] at q
    obtain ⟨a', ov, e2, g3, hh⟩ := R.findV e ry
    refine ⟨_, e2, a', ov, rfl, g3, ?_⟩
    rcases hh with ⟨rfl, rfl⟩ | ⟨v4, e4, rfl, rfl, rp4⟩
    · exact q _ _ _ R L (.bl _)
    · exact q _ _ _ R L (.bl _)
theorem sat_dinV {i : Nat} {ty : TE} {f : M D} (h : Sat C ty f) : Sat C (tDIn ty (tVar i)) (dinV false i f) := by
  intro N σ H B g Q R q
  refine h.run (P := fun x => Fin C N σ B x Q) R q (fun n ct z => z) (fun z => z) fun d g' v H1 B1 _ R1 L1 rp1 q1 => ?_
  exact dinV_end (neg := false) R1 L1 rp1 q1
theorem sat_dnotinV {i : Nat} {ty : TE} {f : M D} (h : Sat C ty f) : Sat C (tDNotIn ty (tVar i)) (dinV true i f) := by
  intro N σ H B g Q R q
  refine h.run (P := fun x => Fin C N σ B x Q) R q (fun n ct z => z) (fun z => z) fun d g' v H1 B1 _ R1 L1 rp1 q1 => ?_
  exact dinV_end (neg := true) R1 L1 rp1 q1
/-- x[k] = v -/
def dputM (i : Nat) (fk fv : M D) : M Fl := bindM fv fun v => fun g => if isDict g i = true then bindM fk (fun k g' => match g'.sl[i]? with
  | some (.ownT kvs) => (match toKeyT k with
    | some ks => if kvs.length < sizeLine then .ok .next { g' with sl := g'.sl.set i (.ownT (putD kvs ks v)) } else .bad
    | none => .bad)
  | some (.ownK kvs) => (match toKey k with
    | some ks => if kvs.length < sizeLine then .ok .next { g' with sl := g'.sl.set i (.ownK (putD kvs ks v)) } else .bad
    | none => .bad)
  | _ => .bad) g else .bad
theorem satS_dput {i : Nat} {ty tv : TE} {fk fv : M D} (hk : Sat C ty fk) (hv : Sat C tv fv) : SatS C (sDPut (tVar i) ty tv) (dputM i fk fv) := by
  intro N σ H B g D R q
  refine hv.toS R q fun d g1 v H1 B1 _ R1 L1 rp1 q1 => ?_
  by_cases hd : isDict g1 i = true
  · simp only [hd, if_true] at q1
    obtain ⟨a, e1, _⟩ := R1.isDict hd
    refine ⟨_, e1, ?_⟩
    refine hk.toS R1 (FinS.le L1 q1) fun kd g2 y H2 B2 _ R2 L2 rp2 q2 => ?_
    cases e : g2.sl[i]? with
    | none => simp only [e] at q2; exact q2.elim
    | some s =>
      have r := R2.slots i s e
      cases s with
      | ownT kvs =>
        obtain ⟨p, vs, e2, n, hH, rp⟩ := r
        rw [e1] at e2
        cases e2
        simp only [e] at q2
        cases ek : toKeyT kd with
        | none => simp only [ek] at q2; exact q2.elim
        | some ks =>
          simp only [ek] at q2
          by_cases hz : kvs.length < sizeLine
          · simp only [hz, if_true] at q2
            obtain rfl := toKeyT_some ek
            cases rp2 with
            | tup hb rk =>
              rw [rk.keys] at hb
              exact ⟨a, _, rfl, .t hH (R2.sub _ _ hb) (by rw [rp.pd.length]; exact hz), q2 σ _ B2 (R2.write e rfl e1 n ⟨a, _, rfl, n, upd_same, (rp.pd.put (rp1.le L2) ks).toT⟩) L2⟩
          · simp only [hz, if_false] at q2; exact q2.elim
      | ownK kvs =>
        obtain ⟨p, vs, e2, n, hH, rp⟩ := r
        rw [e1] at e2
        cases e2
        simp only [e] at q2
        cases ek : toKey kd with
        | none => simp only [ek] at q2; exact q2.elim
        | some ks =>
          simp only [ek] at q2
          by_cases hz : kvs.length < sizeLine
          · simp only [hz, if_true] at q2
            obtain rfl := toKey_some ek
            rw [rp2.key]
            exact ⟨a, _, rfl, .k hH (by rw [rp.pd.length]; exact hz), q2 σ _ B2 (R2.write e rfl e1 n ⟨a, _, rfl, n, upd_same, (rp.pd.put (rp1.le L2) ks).toK⟩) L2⟩
          · simp only [hz, if_false] at q2; exact q2.elim
      | _ => simp only [e] at q2; exact q2.elim
  · simp only [hd, if_false] at q1; exact q1.elim

/-! ### built-ins -/
def intD (ds : List D) : Option D := match ds with
  | [.int i] => some (.int i)
  | [.bool k] => some (.int (if k then 1 else 0))
  | _ => none
theorem vn_int : VN C (fun xs H Q => (∃ i, xs = [.int i] ∧ Q (.int i) H) ∨ ∃ k, xs = [.bl k] ∧ Q (.int (if k then 1 else 0)) H) intD := by
  intro H B xs ds d Q L r e q
  cases r with
  | nil => cases e
  | cons a b =>
    cases b with
    | cons _ _ => cases a <;> cases e
    | nil =>
      cases a with
      | int i => cases e; exact .inl ⟨i, rfl, q _ H B .refl (.int _)⟩
      | bl k => cases e; exact .inr ⟨k, rfl, q _ H B .refl (.int _)⟩
      | _ => cases e
def absD (ds : List D) : Option D := match ds with
  | [.int i] => some (.int (if i < 0 then -i else i))
  | _ => none
theorem vn_abs : VN C (fun xs H Q => ∃ i, xs = [.int i] ∧ Q (.int (if i < 0 then -i else i)) H) absD := by
  intro H B xs ds d Q L r e q
  cases r with
  | nil => cases e
  | cons a b =>
    cases b with
    | cons _ _ => cases a <;> cases e
    | nil =>
      cases a with
      | int i => cases e; exact ⟨i, rfl, q _ H B .refl (.int _)⟩
      | _ => cases e
/-- a list of ints, of truths -/
def intsD : List D → Option (List Int)
  | [] => some []
  | .int i :: r => (intsD r).map fun ns => i :: ns
  | _ => none
def blsD : List D → Option (List Bool)
  | [] => some []
  | .bool i :: r => (blsD r).map fun ns => i :: ns
  | _ => none
theorem intsD_some : ∀ {ds : List D} {ns : List Int}, intsD ds = some ns → ds = ns.map PyData.int
  | [], _, h => by cases h; rfl
  | d :: r, ns, h => by
    cases d with
    | int i =>
      have h : (intsD r).map (fun ns => i :: ns) = some ns := h
      cases e : intsD r with
      | none => rw [e] at h; cases h
      | some ms => rw [e] at h; cases h; rw [intsD_some e]; rfl
    | _ => cases h
theorem intsD_map (ns : List Int) : intsD (ns.map PyData.int) = some ns := by
  induction ns with
  | nil => rfl
  | cons n r ih => show (intsD (r.map PyData.int)).map _ = _; rw [ih]; rfl
theorem blsD_some : ∀ {ds : List D} {ns : List Bool}, blsD ds = some ns → ds = ns.map PyData.bool
  | [], _, h => by cases h; rfl
  | d :: r, ns, h => by
    cases d with
    | bool i =>
      have h : (blsD r).map (fun ns => i :: ns) = some ns := h
      cases e : blsD r with
      | none => rw [e] at h; cases h
      | some ms => rw [e] at h; cases h; rw [blsD_some e]; rfl
    | _ => cases h
theorem blsD_map (ns : List Bool) : blsD (ns.map PyData.bool) = some ns := by
  induction ns with
  | nil => rfl
  | cons n r ih => show (blsD (r.map PyData.bool)).map _ = _; rw [ih]; rfl
theorem Rps.bls {K : PySem.W.Frag} {B : Hp} : ∀ {ns : List Bool} {vs : List V}, Rps K B vs (ns.map PyData.bool) → vs = ns.map V.bl
  | [], _, .nil => rfl
  | n :: r, _, .cons h t => by cases h; rw [Rps.bls t]; rfl
/-- one list -/
def onL (f : List D → Option D) (ds : List D) : Option D := match ds with
  | [.list xs] => f xs
  | _ => none
theorem onL_some {f : List D → Option D} {ds : List D} {d : D} (h : onL f ds = some d) : ∃ xs, ds = [.list xs] ∧ f xs = some d := by
  unfold onL at h
  split at h
  · exact ⟨_, rfl, h⟩
  · cases h
def sumD := onL fun xs => (intsD xs).map fun ns => .int ns.sum
theorem vn_sum : VN C (rSum C.K) sumD := by
  intro H B xs ds d Q L r e q
  obtain ⟨ys, rfl, e0⟩ := onL_some e
  obtain ⟨v, rfl, rp⟩ := r.one_of
  cases rp with
  | lst hb rp =>
    cases e1 : intsD ys with
    | none => rw [e1] at e0; cases e0
    | some ns =>
      rw [e1] at e0
      cases e0
      obtain rfl := intsD_some e1
      exact ⟨_, ns, rfl, SqL.of (by rw [← rp.of_ints]; exact L _ _ hb), q _ H B .refl (.int _)⟩
def allD := onL fun xs => (blsD xs).map fun ns => .bool (ns.all id)
theorem vn_all : VN C (rAll C.K) allD := by
  intro H B xs ds d Q L r e q
  obtain ⟨ys, rfl, e0⟩ := onL_some e
  obtain ⟨v, rfl, rp⟩ := r.one_of
  cases rp with
  | lst hb rp =>
    cases e1 : blsD ys with
    | none => rw [e1] at e0; cases e0
    | some ns =>
      rw [e1] at e0
      cases e0
      obtain rfl := blsD_some e1
      exact ⟨_, ns, rfl, SqL.of (by rw [← rp.bls]; exact L _ _ hb), q _ H B .refl (.bl _)⟩
def anyD := onL fun xs => (blsD xs).map fun ns => .bool (ns.any id)
theorem vn_any : VN C (rAny C.K) anyD := by
  intro H B xs ds d Q L r e q
  obtain ⟨ys, rfl, e0⟩ := onL_some e
  obtain ⟨v, rfl, rp⟩ := r.one_of
  cases rp with
  | lst hb rp =>
    cases e1 : blsD ys with
    | none => rw [e1] at e0; cases e0
    | some ns =>
      rw [e1] at e0
      cases e0
      obtain rfl := blsD_some e1
      exact ⟨_, ns, rfl, SqL.of (by rw [← rp.bls]; exact L _ _ hb), q _ H B .refl (.bl _)⟩
def maxL : List Int → Option Int
  | [] => none
  | n :: r => some (r.foldl max n)
def minL : List Int → Option Int
  | [] => none
  | n :: r => some (r.foldl min n)
theorem foldl_max_mem : ∀ (r : List Int) (n : Int), r.foldl max n ∈ n :: r ∧ ∀ y ∈ n :: r, y ≤ r.foldl max n
  | [], n => ⟨by simp, by simp⟩
  | m :: r, n => by
    obtain ⟨h1, h2⟩ := foldl_max_mem r (max n m)
    rw [List.foldl_cons]
    constructor
    · rcases List.mem_cons.mp h1 with e | h1
      · rw [e]
        by_cases hh : n ≤ m
        · rw [Int.max_eq_right hh]; simp
        · rw [Int.max_eq_left (by omega)]; simp
      · simp [h1]
    · intro y hy
      have hm := h2 (max n m) (by simp)
      rcases List.mem_cons.mp hy with e | hy
      · subst e; exact Int.le_trans (Int.le_max_left y m) hm
      · rcases List.mem_cons.mp hy with e | hy
        · subst e; exact Int.le_trans (Int.le_max_right n y) hm
        · exact h2 y (List.mem_cons_of_mem _ hy)
theorem foldl_min_mem : ∀ (r : List Int) (n : Int), r.foldl min n ∈ n :: r ∧ ∀ y ∈ n :: r, r.foldl min n ≤ y
  | [], n => ⟨by simp, by simp⟩
  | m :: r, n => by
    obtain ⟨h1, h2⟩ := foldl_min_mem r (min n m)
    rw [List.foldl_cons]
    constructor
    · rcases List.mem_cons.mp h1 with e | h1
      · rw [e]
        by_cases hh : n ≤ m
        · rw [Int.min_eq_left hh]; simp
        · rw [Int.min_eq_right (by omega)]; simp
      · simp [h1]
    · intro y hy
      have hm := h2 (min n m) (by simp)
      rcases List.mem_cons.mp hy with e | hy
      · subst e; exact Int.le_trans hm (Int.min_le_left y m)
      · rcases List.mem_cons.mp hy with e | hy
        · subst e; exact Int.le_trans hm (Int.min_le_right n y)
        · exact h2 y (List.mem_cons_of_mem _ hy)
theorem maxL_uniq {ns : List Int} {m z : Int} (h : maxL ns = some z) (h1 : m ∈ ns) (h2 : ∀ y, y ∈ ns → y ≤ m) : m = z := by
  cases ns with
  | nil => cases h
  | cons n r =>
    cases h
    obtain ⟨a, b⟩ := foldl_max_mem r n
    exact Int.le_antisymm (b m h1) (h2 _ a)
theorem minL_uniq {ns : List Int} {m z : Int} (h : minL ns = some z) (h1 : m ∈ ns) (h2 : ∀ y, y ∈ ns → m ≤ y) : m = z := by
  cases ns with
  | nil => cases h
  | cons n r =>
    cases h
    obtain ⟨a, b⟩ := foldl_min_mem r n
    exact Int.le_antisymm (h2 _ a) (b m h1)
def maxD := onL fun xs => (intsD xs).bind fun ns => (maxL ns).map fun m => .int m
def minD := onL fun xs => (intsD xs).bind fun ns => (minL ns).map fun m => .int m
theorem vn_max : VN C (rMax C.K) maxD := by
  intro H B xs ds d Q L r e q
  obtain ⟨ys, rfl, e0⟩ := onL_some e
  obtain ⟨v, rfl, rp⟩ := r.one_of
  cases rp with
  | lst hb rp =>
    cases e1 : intsD ys with
    | none => rw [e1] at e0; cases e0
    | some ns =>
      rw [e1] at e0
      cases e2 : maxL ns with
      | none => rw [Option.bind_some, e2] at e0; cases e0
      | some z =>
        rw [Option.bind_some, e2] at e0
        cases e0
        obtain rfl := intsD_some e1
        refine ⟨_, ns, rfl, SqL.of (by rw [← rp.of_ints]; exact L _ _ hb), ?_, fun m h1 h2 => ?_⟩
        · cases ns with
          | nil => cases e2
          | cons _ _ => exact Nat.succ_pos _
        · rw [maxL_uniq e2 h1 h2]; exact q _ H B .refl (.int _)
theorem vn_min : VN C (rMin C.K) minD := by
  intro H B xs ds d Q L r e q
  obtain ⟨ys, rfl, e0⟩ := onL_some e
  obtain ⟨v, rfl, rp⟩ := r.one_of
  cases rp with
  | lst hb rp =>
    cases e1 : intsD ys with
    | none => rw [e1] at e0; cases e0
    | some ns =>
      rw [e1] at e0
      cases e2 : minL ns with
      | none => rw [Option.bind_some, e2] at e0; cases e0
      | some z =>
        rw [Option.bind_some, e2] at e0
        cases e0
        obtain rfl := intsD_some e1
        refine ⟨_, ns, rfl, SqL.of (by rw [← rp.of_ints]; exact L _ _ hb), ?_, fun m h1 h2 => ?_⟩
        · cases ns with
          | nil => cases e2
          | cons _ _ => exact Nat.succ_pos _
        · rw [minL_uniq e2 h1 h2]; exact q _ H B .refl (.int _)
/-- list(x), tuple(x) -/
abbrev rListOf (K : PySem.W.Frag) : List V → Hp → VK → Prop := fun xs H Q => ∃ p ys, xs = [.ref p] ∧ (SqL K H p ys ∨ SqT K H p ys) ∧ ∀ l, H l = none → Q (.ref l) (upd H l (.lst ys))
abbrev rTupleOf (K : PySem.W.Frag) : List V → Hp → VK → Prop := fun xs H Q => ∃ p ys, xs = [.ref p] ∧ ((SqL K H p ys ∧ ∀ l, H l = none → Q (.ref l) (upd H l (.tup ys))) ∨ (SqT K H p ys ∧ Q (.ref p) H))
def one1 (ds : List D) : Option D := match ds with
  | [d] => some d
  | _ => none
def listOfM (f : M (List D)) : M (List D) := bindM f fun ds => liftO ((one1 ds).bind seqD)
theorem one1_some {ds : List D} {xs : List D} (h : (one1 ds).bind seqD = some xs) : ∃ d, ds = [d] ∧ seqD d = some xs := by
  cases ds with
  | nil => cases h
  | cons d r =>
    cases r with
    | nil => exact ⟨d, rfl, h⟩
    | cons _ _ => cases h
theorem sq_or {K : PySem.W.Frag} {H : Hp} {q : Sq} {vs : List V} (h : q.st K H vs) : SqL K H q.a vs ∨ SqT K H q.a vs := by
  cases q with
  | L a => exact .inl h
  | T a => exact .inr h
theorem satF_listOf {t : TA} {f : M (List D)} (h : SatA C t f) : SatF C (tCB (rListOf C.K) t) (listOfM f) := by
  intro N σ H B g Q R q
  refine h.run (P := fun x => FinF C N σ B x Q) R q (fun n ct z => z) (fun z => z) fun ds g' vs H1 B1 _ R1 L1 rp1 q1 => ?_
  cases e : (one1 ds).bind seqD with
  | none => rw [e] at q1; exact q1.elim
  | some xs =>
    rw [e] at q1
    obtain ⟨d, rfl, e2⟩ := one1_some e
    obtain ⟨v, rfl, rp⟩ := rp1.one_of
    obtain ⟨sq, ws, rfl, hq, r⟩ := rp.seq e2
    exact ⟨_, ws, rfl, sq_or (Sq.le R1.sub hq), fun l hl => q1 l ws _ B1 (R1.newl hl) L1 (R1.sub_none hl) upd_same r (R1.fresh hl) fun j hj => R1.free_own hl j hj⟩
def tupleOfD (ds : List D) : Option D := (one1 ds).bind fun d => (seqD d).map .tuple
theorem vn_tupleOf : VN C (rTupleOf C.K) tupleOfD := by
  intro H B xs ds d Q L r e q
  unfold tupleOfD at e
  cases ds with
  | nil => cases e
  | cons d0 rest =>
    cases rest with
    | cons _ _ => cases e
    | nil =>
      obtain ⟨v, rfl, rp⟩ := r.one_of
      have e : (seqD d0).map PyData.tuple = some d := e
      cases rp with
      | lst hb rp =>
        cases e
        refine ⟨_, _, rfl, .inl ⟨SqL.of (L _ _ hb), fun l hl => ?_⟩⟩
        rename_i a ws es
        have G := Grow.upd (o := .tup ws) hl L
        exact q _ _ _ G (.tup upd_same (rp.le G.b))
      | tup hb rp => cases e; exact ⟨_, _, rfl, .inr ⟨SqT.of (L _ _ hb), q _ H B .refl (.tup hb rp)⟩⟩
      | _ => cases e
end
end DL

set_option Elab.async false
set_option linter.all false
set_option maxRecDepth 100000
set_option maxHeartbeats 4000000
/-! DL10: a text's part does what f says (canonical readings); calls of defs by what they tell; raise. -/
namespace DL
open PySem PySem.Spec L2
open PyProof.Rows hiding St

/-! ### canonical readings -/
def toE (C : Ctx) (f : M D) : TE := fun σ H Q => ∃ N B g, Rep C N σ H B g ∧ Fin C N σ B (f g) Q
def toT (C : Ctx) (f : M Bool) : TT := fun σ H Q => ∃ N B g, Rep C N σ H B g ∧ FinT C N σ B (f g) Q
def toA (C : Ctx) (f : M (List D)) : TA := fun σ H Q => ∃ N B g, Rep C N σ H B g ∧ FinA C N σ B (f g) Q
def toF (C : Ctx) (f : M (List D)) : TE := fun σ H Q => ∃ N B g, Rep C N σ H B g ∧ FinF C N σ B (f g) Q
def toDc (C : Ctx) (f : M (List (List Key × D))) : TE := fun σ H Q => ∃ N B g, Rep C N σ H B g ∧ FinD C N σ B (f g) Q
def toI (C : Ctx) (f : M (List D)) : TI := fun σ H R => ∃ N B g, Rep C N σ H B g ∧ FinI C N σ B (f g) R
def toS (C : Ctx) (f : M Fl) : TS := fun D σ H => ∃ N B g, Rep C N σ H B g ∧ FinS C N B (f g) D
def toG (C : Ctx) (ts : List Nat) (k : D → M Unit) : TG := fun v σ H Q => ∃ N B g d, Rep C N σ H B g ∧ Rp C.K B v d ∧ FinG C N ts σ B (k d g) Q
section
variable {C : Ctx} {X : Cx}
theorem sE {f : M D} : Sat C (toE C f) f := fun N σ H B g Q R q => ⟨N, B, g, R, q⟩
theorem sT {f : M Bool} : SatT C (toT C f) f := fun N σ H B g Q R q => ⟨N, B, g, R, q⟩
theorem sA {f : M (List D)} : SatA C (toA C f) f := fun N σ H B g Q R q => ⟨N, B, g, R, q⟩
theorem sF {f : M (List D)} : SatF C (toF C f) f := fun N σ H B g Q R q => ⟨N, B, g, R, q⟩
theorem sD {f : M (List (List Key × D))} : SatD C (toDc C f) f := fun N σ H B g Q R q => ⟨N, B, g, R, q⟩
theorem sI {f : M (List D)} : SatI C (toI C f) f := fun N σ H B g Q R q => ⟨N, B, g, R, q⟩
theorem sS {f : M Fl} : SatS C (toS C f) f := fun N σ H B g D R q => ⟨N, B, g, R, q⟩
theorem sG {ts : List Nat} {k : D → M Unit} : SatG C ts (toG C ts k) k := fun N v σ H B g d Q R r q => ⟨N, B, g, d, R, r, q⟩
abbrev DE (C : Ctx) (X : Cx) (e : Expr) (f : M D) : Prop := PE X e (toE C f)
abbrev DT (C : Ctx) (X : Cx) (e : Expr) (f : M Bool) : Prop := PT X e (toT C f)
abbrev DTs (C : Ctx) (X : Cx) (e : List Expr) (f : M Bool) : Prop := PTs X e (toT C f)
abbrev DA (C : Ctx) (X : Cx) (e : List Expr) (f : M (List D)) : Prop := PA X e (toA C f)
abbrev DF (C : Ctx) (X : Cx) (e : Expr) (f : M (List D)) : Prop := PE X e (toF C f)
abbrev DDc (C : Ctx) (X : Cx) (e : Expr) (f : M (List (List Key × D))) : Prop := PE X e (toDc C f)
abbrev DI (C : Ctx) (X : Cx) (tg e : Expr) (f : M (List D)) : Prop := PI X tg e (toI C f)
abbrev DS (C : Ctx) (X : Cx) (e : Stmt) (f : M Fl) : Prop := PS X e (toS C f)
abbrev DSs (C : Ctx) (X : Cx) (e : List Stmt) (f : M Fl) : Prop := PSs X e (toS C f)
abbrev DG (C : Ctx) (X : Cx) (e : Expr) (ts : List Nat) (k : D → M Unit) : Prop := PG X e (toG C ts k)
theorem dE {e : Expr} {t : TE} {f : M D} (h : PE X e t) (s : Sat C t f) : DE C X e f := ⟨fun pins s0 σ H Q I ⟨N, B, g, R, q⟩ => h.run pins s0 σ H Q I (s N σ H B g Q R q)⟩
theorem dF {e : Expr} {t : TE} {f : M (List D)} (h : PE X e t) (s : SatF C t f) : DF C X e f := ⟨fun pins s0 σ H Q I ⟨N, B, g, R, q⟩ => h.run pins s0 σ H Q I (s N σ H B g Q R q)⟩
theorem dD {e : Expr} {t : TE} {f : M (List (List Key × D))} (h : PE X e t) (s : SatD C t f) : DDc C X e f := ⟨fun pins s0 σ H Q I ⟨N, B, g, R, q⟩ => h.run pins s0 σ H Q I (s N σ H B g Q R q)⟩
theorem dT' {e : Expr} {t : TT} {f : M Bool} (h : PT X e t) (s : SatT C t f) : DT C X e f := ⟨fun pins s0 σ H Q I ⟨N, B, g, R, q⟩ => h.run pins s0 σ H Q I (s N σ H B g Q R q)⟩
theorem dTs {e : List Expr} {t : TT} {f : M Bool} (h : PTs X e t) (s : SatT C t f) : DTs C X e f := ⟨fun pins s0 σ H Q I ⟨N, B, g, R, q⟩ => h.run pins s0 σ H Q I (s N σ H B g Q R q)⟩
theorem dA {e : List Expr} {t : TA} {f : M (List D)} (h : PA X e t) (s : SatA C t f) : DA C X e f := ⟨fun pos pins s0 σ H Q I ⟨N, B, g, R, q⟩ => h.run pos pins s0 σ H Q I (s N σ H B g Q R q)⟩
theorem dI {tg e : Expr} {t : TI} {f : M (List D)} (h : PI X tg e t) (s : SatI C t f) : DI C X tg e f := ⟨fun pins s0 σ H Q I ⟨N, B, g, R, q⟩ => h.run pins s0 σ H Q I (s N σ H B g Q R q)⟩
theorem dS {e : Stmt} {t : TS} {f : M Fl} (h : PS X e t) (s : SatS C t f) : DS C X e f := ⟨fun pins s0 σ H D I ⟨N, B, g, R, q⟩ => h.run pins s0 σ H D I (s N σ H B g D R q)⟩
theorem dSs {e : List Stmt} {t : TS} {f : M Fl} (h : PSs X e t) (s : SatS C t f) : DSs C X e f := ⟨fun pins s0 σ H D I ⟨N, B, g, R, q⟩ => h.run pins s0 σ H D I (s N σ H B g D R q)⟩
theorem dG {e : Expr} {ts : List Nat} {t : TG} {k : D → M Unit} (h : PG X e t) (s : SatG C ts t k) : DG C X e ts k := ⟨fun pins s0 σ H x u Q I r ⟨N, B, g, d, R, rp, q⟩ => h.run pins s0 σ H x u Q I r (s N x σ H B g d Q R rp q)⟩
/-- a fresh list, a fresh dict as data -/
theorem dL {e : Expr} {f : M (List D)} (h : DF C X e f) : DE C X e (lstM f) := dE h sF.sat
end

/-! ### what a def tells -/
/-- the numbers of the law's stream (none: there is no stream yet), the arguments, the stream's count -/
abbrev FnM := List Int → List Slot → Int → Res D
def nsOf (s : Option StC) : List Int := match s with
  | some c => c.ns
  | none => []
abbrev Ctx.ns (C : Ctx) : List Int := nsOf C.st
def ArgOk (C : Ctx) (B : Hp) : V → Slot → Prop
  | v, .dat d => Rp C.K B v d
  | v, .sta => ∃ c, C.st = some c ∧ v = .ref c.a
  | _, _ => False
inductive ArgsOk (C : Ctx) (B : Hp) : List V → List Slot → Prop
  | nil : ArgsOk C B [] []
  | cons {v : V} {vs : List V} {s : Slot} {ss : List Slot} : ArgOk C B v s → ArgsOk C B vs ss → ArgsOk C B (v :: vs) (s :: ss)
theorem ArgsOk.length {C : Ctx} {B : Hp} : ∀ {vs : List V} {ss : List Slot}, ArgsOk C B vs ss → vs.length = ss.length
  | _, _, .nil => rfl
  | _, _, .cons _ r => by rw [List.length_cons, List.length_cons, ArgsOk.length r]
theorem ArgsOk.get {C : Ctx} {B : Hp} : ∀ {vs : List V} {ss : List Slot} {i : Nat} {s : Slot}, ArgsOk C B vs ss → ss[i]? = some s → ∃ v, vs[i]? = some v ∧ ArgOk C B v s
  | _, _, _, _, .nil, e => by simp at e
  | _, _, 0, _, .cons h _, e => by simp at e; subst e; exact ⟨_, rfl, h⟩
  | _, _, i + 1, s, .cons _ r, e => by
    obtain ⟨v, h1, h2⟩ := ArgsOk.get (i := i) (s := s) r (by simpa using e)
    exact ⟨v, by simpa using h1, h2⟩
theorem ArgsOk.dats {C : Ctx} {B : Hp} : ∀ {vs : List V} {ds : List D}, Rps C.K B vs ds → ArgsOk C B vs (ds.map .dat)
  | _, _, .nil => .nil
  | _, _, .cons h r => .cons h (ArgsOk.dats r)
/-- behind a call: old things stand (but the stream's cell), new things are new -/
structure Post (st : Option StC) (H B H' B' : Hp) (ct : Int) : Prop where
  b : Le B B'
  n : ∀ a o, B' a = some o → B a = some o ∨ H a = none
  s : ∀ a o, B' a = some o → H' a = some o
  h : ∀ a o, H a = some o → (∀ c, st = some c → a ≠ c.a) → H' a = some o
  c : ∀ c, st = some c → H' c.a = some (.lst [.ref c.na, .int ct])
def spD (K : PySem.W.Frag) (mg : Str → Option Value) (f : FnM) : Sp := fun vs H Q E => ∃ (st : Option StC) (B : Hp) (ss : List Slot) (ct : Int),
  Le B H ∧ ArgsOk ⟨K, mg, st, fun _ => E⟩ B vs ss ∧ (∀ c, st = some c → B c.a = none ∧ H c.a = some (.lst [.ref c.na, .int ct]) ∧ B c.na = some (.lst (c.ns.map V.int))) ∧
  match f (Ctx.ns ⟨K, mg, st, fun _ => E⟩) ss ct with
  | .ok d g => ∀ v H' B', Post st H B H' B' g.ct → Rp K B' v d → Q v H'
  | .exc n ct' => ∀ cl H' B', Post st H B H' B' ct' → mg n = some (.ref cl) → E (.ref cl) none H'
  | .bad => False
section
variable {C : Ctx} {N : An} {σ : St} {H B H' B' : Hp} {g : Sg}
theorem Rep.post {ct : Int} (R : Rep C N σ H B g) (P : Post C.st H B H' B' ct) : Rep C N σ H' B' { g with ct := ct } where
  len := R.len
  slots := fun i s e => by
    have r := R.slots i s e
    have ap : ∀ {p : Addr} {o : HO}, B p = none → H p = some o → B' p = none := fun {p o} n h => by
      cases q : B' p with
      | none => rfl
      | some u =>
        rcases P.n p u q with z | z
        · rw [n] at z; cases z
        · rw [h] at z; cases z
    have ow : ∀ {p : Addr} {o : HO}, s.isOwn = true → σ[i]?.getD none = some (.ref p) → H p = some o → H' p = some o := fun {p o} hs hp h => P.h p o h fun c hc z => by
      subst z
      exact (R.st c hc).2.2.2 (R.ownNew i _ ⟨s, e, hs⟩ (getD_some hp))
    cases s with
    | no => trivial
    | dat d => obtain ⟨v, e1, r1⟩ := r; exact ⟨v, e1, r1.le P.b⟩
    | own xs => obtain ⟨p, vs, e1, n, h, r1⟩ := r; exact ⟨p, vs, e1, ap n h, ow rfl e1 h, r1.le P.b⟩
    | ownT xs => obtain ⟨p, vs, e1, n, h, r1⟩ := r; exact ⟨p, vs, e1, ap n h, ow rfl e1 h, r1.le P.b⟩
    | ownK xs => obtain ⟨p, vs, e1, n, h, r1⟩ := r; exact ⟨p, vs, e1, ap n h, ow rfl e1 h, r1.le P.b⟩
    | raw v => exact r
    | sta => exact r
  sep := R.sep
  sub := P.s
  up := fun a o q => P.b _ _ (R.up a o q)
  new := fun a o q => by
    rcases P.n a o q with z | z
    · exact R.new a o z
    · exact .inr (R.fresh z)
  ownNew := R.ownNew
  keep := fun a o q hc => P.h a o (R.keep a o q hc) hc
  st := fun c hc => by
    obtain ⟨h1, h2, h3, h4⟩ := R.st c hc
    refine ⟨?_, P.c c hc, P.b _ _ h3, h4⟩
    cases q : B' c.a with
    | none => rfl
    | some u =>
      rcases P.n c.a u q with z | z
      · rw [h1] at z; cases z
      · rw [h2] at z; cases z
theorem Rep.bare (R : Rep C N σ H B g) : Rep C N σ H B ⟨σ.map fun _ => Slot.no, g.ct⟩ where
  len := by simp
  slots := fun i s e => by
    have : s = .no := by
      rw [List.getElem?_map] at e
      cases h : σ[i]? with
      | none => rw [h] at e; cases e
      | some _ => rw [h] at e; cases e; rfl
    subst this
    trivial
  sep := fun i j p _ hi => by
    obtain ⟨s, e, h⟩ := hi
    rw [List.getElem?_map] at e
    cases q : σ[i]? with
    | none => rw [q] at e; cases e
    | some _ => rw [q] at e; cases e; cases h
  sub := R.sub
  up := R.up
  new := R.new
  ownNew := fun i p hi => by
    obtain ⟨s, e, h⟩ := hi
    rw [List.getElem?_map] at e
    cases q : σ[i]? with
    | none => rw [q] at e; cases e
    | some _ => rw [q] at e; cases e; cases h
  keep := R.keep
  st := R.st
end

/-! ### arguments, calls -/
def FinX (C : Ctx) (N : An) (σ : St) (B : Hp) (r : Res (List Slot)) (Q : List V → Hp → Prop) : Prop := match r with
  | .ok ss g => ∀ vs H' B', Rep C N σ H' B' g → Le B B' → ArgsOk C B' vs ss → Q vs H'
  | .exc n ct => ∀ cl H' B', Rep C N σ H' B' ⟨σ.map fun _ => Slot.no, ct⟩ → C.mg n = some (.ref cl) → C.E σ (.ref cl) none H'
  | .bad => False
def SatX (C : Ctx) (t : TA) (f : M (List Slot)) : Prop := ∀ N σ H B g (Q : List V → Hp → Prop), Rep C N σ H B g → FinX C N σ B (f g) Q → t σ H Q
def datsM (f : M (List D)) : M (List Slot) := bindM f fun ds => pureM (ds.map .dat)
def staM (i : Nat) (f : M (List D)) : M (List Slot) := fun g => match g.sl[i]? with
  | some .sta => bindM f (fun ds => pureM (.sta :: ds.map .dat)) g
  | _ => .bad
def callM (h : FnM) (ns : List Int) (f : M (List Slot)) : M D := bindM f fun ss g => match h ns ss g.ct with
  | .ok d g' => .ok d { g with ct := g'.ct }
  | .exc n ct => .exc n ct
  | .bad => .bad
section
variable {C : Ctx} {X : Cx}
theorem satX_dats {t : TA} {f : M (List D)} (h : SatA C t f) : SatX C t (datsM f) := by
  intro N σ H B g Q R q
  exact h.run (P := fun x => FinX C N σ B x Q) R q (fun n ct z => z) (fun z => z) fun ds g' vs H1 B1 _ R1 L1 rp q1 => q1 vs H1 B1 R1 L1 (.dats rp)
theorem satX_sta {i : Nat} {t : TA} {f : M (List D)} (h : SatA C t f) : SatX C (tCons (tVar i) t) (staM i f) := by
  intro N σ H B g Q R q
  unfold staM at q
  cases e : g.sl[i]? with
  | none => rw [e] at q; exact q.elim
  | some s =>
    cases s with
    | sta =>
      rw [e] at q
      obtain ⟨c, hc, e1⟩ := R.slots i _ e
      refine ⟨_, getD_some e1, ?_⟩
      exact h.run (P := fun x => FinX C N σ B x Q) R q (fun n ct z => z) (fun z => z) fun ds g' vs H1 B1 _ R1 L1 rp q1 => q1 _ H1 B1 R1 L1 (.cons ⟨c, hc, rfl⟩ (.dats rp))
    | _ => rw [e] at q; exact q.elim
theorem sat_call {t : TA} {f : M (List Slot)} {h : FnM} (hx : SatX C t f) : Sat C (tCallSD (spD C.K C.mg h) [] C.E t) (callM h C.ns f) := by
  intro N σ H B g Q R q
  refine hx N σ H B g _ R ?_
  unfold callM bindM at q
  cases e : f g with
  | bad => rw [e] at q; exact q.elim
  | exc n ct => rw [e] at q; exact q
  | ok ss g1 =>
    rw [e] at q
    intro vs H1 B1 R1 L1 ao
    rw [List.append_nil]
    have conv : ∀ {vs : List V} {ss : List Slot}, ArgsOk C B1 vs ss → ArgsOk ⟨C.K, C.mg, C.st, fun _ => C.E σ⟩ B1 vs ss := by
      intro vs ss a
      induction a with
      | nil => exact .nil
      | @cons v vs s ss a _ ih => exact .cons (by cases s <;> exact a) ih
    refine ⟨C.st, B1, ss, g1.ct, R1.sub, conv ao, fun c hc => ⟨(R1.st c hc).1, (R1.st c hc).2.1, (R1.st c hc).2.2.1⟩, ?_⟩
    have q : Fin C N σ B (match h C.ns ss g1.ct with
      | .ok d g' => .ok d { g1 with ct := g'.ct }
      | .exc n ct => .exc n ct
      | .bad => .bad) Q := q
    show (match h C.ns ss g1.ct with
      | .ok d g => ∀ v H' B', Post C.st H1 B1 H' B' g.ct → Rp C.K B' v d → Q v H'
      | .exc n ct' => ∀ cl H' B', Post C.st H1 B1 H' B' ct' → C.mg n = some (.ref cl) → C.E σ (.ref cl) none H'
      | .bad => False)
    cases e2 : h C.ns ss g1.ct with
    | bad => rw [e2] at q; exact q
    | exc n ct => rw [e2] at q; exact fun cl H' B' P hm => q cl H' B' (R1.post P).bare hm
    | ok d g2 => rw [e2] at q; exact fun v H' B' P rp => q v H' B' (R1.post P) (L1.trans P.b) rp
end

/-! ### defs -/
structure FnG (P : Program) (w : World) (K : PySem.W.Frag) (mg : Str → Option Value) (base : Heap) (k : Nat) (f : Addr) (fd : FuncData) (ps : List Str) (sp : Sp) : Prop where
  len : ∀ vs H Q E, sp vs H Q E → vs.length = ps.length
  run : ∀ (A : Around) (outer : List Env) (s : Shared) (H : Hp) (args : Args) (us : List Value) (vs : List V) (Q : VK) (E : XK), Room k A → A.guards = some [] → Env0 P w K mg base A outer s H → BindsTo s fd args (ps.zip us) → Vals vs us → sp vs H Q E →
    codeAny (model P w) A (.call (.ref f) args) (CR (L2N.CX P w) outer P w H s Q E) s
theorem FnG.mono {P : Program} {w : World} {K : PySem.W.Frag} {mg : Str → Option Value} {base : Heap} {j k : Nat} {f : Addr} {fd : FuncData} {ps : List Str} {sp : Sp} (F : FnG P w K mg base j f fd ps sp) (h : j ≤ k) : FnG P w K mg base k f fd ps sp :=
  ⟨F.len, fun A outer s H args us vs Q E hr => F.run A outer s H args us vs Q E (hr.mono h)⟩
theorem FnG.of {P : Program} {w : World} {K : PySem.W.Frag} {mg : Str → Option Value} {base : Heap} {k : Nat} {f : Addr} {fd : FuncData} {ps : List Str} {sp : Sp} (F : FnOk P w K mg base (L2N.CX P w) k f fd ps sp) : FnG P w K mg base k f fd ps sp :=
  ⟨F.len, fun A outer s H args us vs Q E hr _ => F.run A outer s H args us vs Q E hr⟩
section
variable {X : Cx} {k : Nat} {f : Addr} {fd : FuncData} {ps : List Str} {sp : Sp} {E : St → XK} {x : Str} {p pos : Pos} {e : Expr} {es : List Expr} {t : TA}
theorem pe_callG (F : FnG X.prog X.w X.K X.mg X.base k f fd ps sp) (hr : Room k X.A) (hgu : X.A.guards = some []) (hg : Gl X x) (hm : X.mg x = some (.ref f)) (hk : PySem.W.keepIn X.K (.ref f) = true) (hb : Binds X.K fd ps []) (hx : ∀ σ, PassesAt (L2N.CX X.prog X.w) X σ (E σ))
    (ha : PA X (e :: es) t) (hdb : (x == ("__debug__" : Str)) = false := by decide) (he : starEach (e :: es) X.env = (false, eval e X.env) :: starEach es X.env := by rfl) (hpl : (backTo pos (starEach es X.env)).any (·.1) = false := by rfl) :
    PE X (.Call (.Name x p) (e :: es) [] pos) (tCallSD sp [] E t) := by
  refine ⟨fun pins s σ H Q I h => ?_⟩
  refine wpAny_Call_Name_kw (ld_glob I hg hm (PySem.W.callWith_K (h₀ := X.base) I.ok.mod.kin hk (thn (ha.run pos pins s σ H _ I h) fun us s1 ⟨vs, H1, I1, r, q⟩ => ⟨I1.kIn, ?_⟩) he hpl) hdb)
  have q : sp (vs ++ []) H1 Q (E σ) := q
  rw [List.append_nil] at q
  have hl : us.length = ps.length := r.length ▸ F.len _ _ _ _ q
  have b := hb s1 us I1.kIn (by rw [List.append_nil]; exact hl)
  rw [List.append_nil] at b
  refine wpAny_call (codeAny_mono (F.run X.A X.stack s1 H1 ⟨us, []⟩ us vs Q (E σ) hr hgu I1.env0 b r q) fun r s' hq => ?_)
  match r with
  | .error e => exact hx σ pins H1 s1 e s' I1 hq
  | .ok (.ret u) => exact I1.after hq
  | .ok .next => exact hq.elim
  | .ok .brk => exact hq.elim
  | .ok .cont => exact hq.elim
end
section
variable {P : Program} {w : World} {K : PySem.W.Frag} {mg : Str → Option Value} {base : Heap}
/-- a def by its body -/
theorem fn_ofG {k : Nat} {x qual : Str} {st : Stmt} {f : Addr} {fd : FuncData} {N ps : List Str} {sp : Sp} (F : Fun K x qual st f fd) (S : FnScope N ps (defScope st)) (len : ∀ vs H Q E, sp vs H Q E → vs.length = ps.length)
    (hbody : ∀ (cdv : Value) (A : Around) (outer : List Env) (s : Shared) (H : Hp) (vs : List V) (Q : VK) (E : XK), Room k (A.deeper (envOfC qual (defScope st) s.heap.objs.size f cdv)) → (A.deeper (envOfC qual (defScope st) s.heap.objs.size f cdv)).guards = some [] → sp vs H Q E →
      ∃ t, PSs (cxOf (L2N.CX P w) P w K mg base N qual (defScope st) f cdv A outer s H E) (defBody st) t ∧ t { nx := fun _ H' => Q .non H', rt := Q } (start N vs) H) : FnG P w K mg base (k + 1) f fd ps sp := by
  obtain ⟨oc, od, kV, doc, pm, an, cdv, ct, osl, rfl, lk, hcd⟩ := F.ex
  refine ⟨len, fun A outer s H args us vs Q E hr hgu e0 hb r hsp => ?_⟩
  have KX : K.In s.heap := e0.mod.kin.keeps fun b o e => (e0.bs b o e).1
  refine codeAny_call_function hr.depth (KX _ _ lk) rfl S.co S.gen rfl (PySem.W.codeRec_of KX hcd) (hb _ _ _ _ (wpAny_newFunctionEnv_cells S.kind (fun y hy => ?_) fun env he s1 ic => ?_))
  · rcases S.par y.1 (List.of_mem_zip hy).1 with q | q
    · exact .inl q
    · exact .inr ⟨q, PySem.W.cellsFrom_some _ _ _ (.inl q)⟩
  · subst he
    refine ⟨(e0.mod.nolimit.keeps fun b o e => (e0.bs b o e).1).keeps ic.toInCall.keep, codeAny_func ?_⟩
    obtain ⟨t, ht, hq⟩ := hbody cdv A outer s H vs Q E (hr.deeper _) hgu hsp
    refine wpAny_mono (ht.run [] s1 (start N vs) H _ (inv_start S hr.hd e0 (len _ _ _ _ hsp) r ic) hq) (fun fl s' hs => ?_) fun e s' hs => hs
    match fl with
    | .ret u =>
      obtain ⟨v, σ', H', J, rv, q⟩ := hs
      exact ⟨v, H', J.os, J.bare, J.base, J.hok, rv, q⟩
    | .next =>
      obtain ⟨σ', H', J, q⟩ := hs
      exact ⟨V.non, H', J.os, J.bare, J.base, J.hok, rfl, q⟩
    | .brk => obtain ⟨_, _, _, q⟩ := hs; exact q.elim
    | .cont => obtain ⟨_, _, _, q⟩ := hs; exact q.elim
/-- a body as a def's telling; n: all its places -/
def runF (n : Nat) (body : List Int → M Fl) : FnM := fun ns ss ct => match body ns ⟨ss ++ List.replicate (n - ss.length) .no, ct⟩ with
  | .ok (.ret d) g => .ok d g
  | .ok .next g => .ok .none g
  | .ok _ _ => .bad
  | .exc n ct => .exc n ct
  | .bad => .bad
theorem Rep.start {C : Ctx} {N : List Str} {vs : List V} {ss : List Slot} {H B : Hp} {ct : Int} (L : Le B H) (ao : ArgsOk C B vs ss) (hst : ∀ c, C.st = some c → B c.a = none ∧ H c.a = some (.lst [.ref c.na, .int ct]) ∧ B c.na = some (.lst (c.ns.map V.int))) :
    Rep C ⟨H, B⟩ (start N vs) H B ⟨ss ++ List.replicate (N.length - ss.length) .no, ct⟩ := by
  have no : ∀ i, ¬ ownAt (ss ++ List.replicate (N.length - ss.length) Slot.no) i := fun i ⟨s, e, h⟩ => by
    by_cases hi : i < ss.length
    · rw [List.getElem?_append_left hi] at e
      obtain ⟨v, _, a⟩ := ao.get e
      cases s <;> first | exact a.elim | cases h
    · rw [List.getElem?_append_right (by omega)] at e
      rw [List.getElem?_replicate] at e
      split at e
      · cases e; cases h
      · cases e
  refine ⟨?_, fun i s e => ?_, fun i j p _ hi => (no i hi).elim, L, fun _ _ q => q, fun _ _ q => .inl q, fun i p hi => (no i hi).elim, fun _ _ q _ => q, fun c hc => ⟨(hst c hc).1, (hst c hc).2.1, (hst c hc).2.2, ?_⟩⟩
  · unfold L2.start
    simp [ao.length]
  · by_cases hi : i < ss.length
    · have e : (ss ++ List.replicate (N.length - ss.length) Slot.no)[i]? = some s := e
      rw [List.getElem?_append_left hi] at e
      obtain ⟨v, hv, a⟩ := ao.get e
      have h1 : (L2.start N vs)[i]?.getD none = some v := by
        unfold L2.start
        rw [List.getElem?_append_left (by rw [List.length_map, ao.length]; exact hi), List.getElem?_map, hv]
        rfl
      rw [h1]
      cases s with
      | dat d => exact ⟨v, rfl, a⟩
      | sta => obtain ⟨c, hc, rfl⟩ := a; exact ⟨c, hc, rfl⟩
      | _ => exact a.elim
    · have e : (ss ++ List.replicate (N.length - ss.length) Slot.no)[i]? = some s := e
      rw [List.getElem?_append_right (by omega)] at e
      rw [List.getElem?_replicate] at e
      split at e
      · cases e; trivial
      · cases e
  · show H c.a ≠ none
    rw [(hst c hc).2.1]; simp
theorem Rep.end_ {C : Ctx} {σ : St} {H B H' B' : Hp} {g : Sg} (R : Rep C ⟨H, B⟩ σ H' B' g) : Post C.st H B H' B' g.ct := ⟨R.up, R.new, R.sub, R.keep, fun c hc => (R.st c hc).2.1⟩
/-- THE RULE: a def of the text, by its mirror -/
theorem fnD {k : Nat} {x qual : Str} {st : Stmt} {f : Addr} {fd : FuncData} {N ps : List Str} {m : List Int → M Fl} {h : FnM} (F : Fun K x qual st f fd) (S : FnScope N ps (defScope st)) (hm : ∀ ns ss ct, h ns ss ct ≠ .bad → ss.length = ps.length ∧ h ns ss ct = runF N.length m ns ss ct)
    (hbody : ∀ (stc : Option StC) (cdv : Value) (A : Around) (outer : List Env) (s : Shared) (H : Hp) (E : XK), Room k (A.deeper (envOfC qual (defScope st) s.heap.objs.size f cdv)) → (A.deeper (envOfC qual (defScope st) s.heap.objs.size f cdv)).guards = some [] →
      DSs ⟨K, mg, stc, fun _ => E⟩ (cxOf (L2N.CX P w) P w K mg base N qual (defScope st) f cdv A outer s H E) (defBody st) (m (nsOf stc))) : FnG P w K mg base (k + 1) f fd ps (spD K mg h) := by
  refine fn_ofG F S (fun vs H Q E hs => ?_) fun cdv A outer s H vs Q E hr hgu hs => ?_
  · obtain ⟨st, B, ss, ct, L, ao, hst, q⟩ := hs
    have nb : h (Ctx.ns ⟨K, mg, st, fun _ => E⟩) ss ct ≠ .bad := fun e => by rw [e] at q; exact q
    rw [ao.length]
    exact (hm _ _ _ nb).1
  · obtain ⟨st, B, ss, ct, L, ao, hst, q⟩ := hs
    have nb : h (Ctx.ns ⟨K, mg, st, fun _ => E⟩) ss ct ≠ .bad := fun e => by rw [e] at q; exact q
    refine ⟨_, hbody st cdv A outer s H E hr hgu, ⟨H, B⟩, B, _, Rep.start (ct := ct) L ao hst, ?_⟩
    rw [(hm _ _ _ nb).2] at q
    unfold runF at q
    revert q
    cases m (Ctx.ns ⟨K, mg, st, fun _ => E⟩) ⟨ss ++ List.replicate (N.length - ss.length) .no, ct⟩ with
    | bad => exact fun q => q
    | exc n ct' => exact fun q cl σ' H' B' R hm => q cl H' B' R.end_ hm
    | ok fl g =>
      cases fl with
      | ret d => exact fun q v σ' H' B' R _ rp => q v H' B' R.end_ rp
      | next => exact fun q σ' H' B' R _ => q _ H' B' R.end_ .non
      | brk => exact fun q => q.elim
      | cont => exact fun q => q.elim
end

/-! ### raise -/
def raiseM {α : Type} (n : Str) : M α := fun g => .exc n g.ct
section
variable {C : Ctx} {X : Cx}
theorem satS_raise {n : Str} {c : Addr} (hm : C.mg n = some (.ref c)) : SatS C (fun _ σ H => C.E σ (.ref c) none H) (raiseM n) := fun N σ H B g D R q => q c σ H B R.bare hm
end
end DL

set_option Elab.async false
set_option linter.all false
set_option maxRecDepth 100000
set_option maxHeartbeats 4000000
/-! DL11: while an exception is handled: a list comprehension over a range; isinstance of the handled exception; the def that tells the error's kind. -/
namespace DL
open PySem PySem.Spec L2 L2H
open PyProof.Rows hiding St

section
variable {X : Cx}
/-- a block whose pins are the def's -/
abbrev blkH (X : Cx) (s : Shared) (H : Hp) (scope : Scope) (ce : Env) (fp : List Addr) : Cx := { X.blk s H scope ce fp with pn := X.pn }
theorem Inv.toBlkH {pins : List (Addr × Obj)} {σ σ' : L2.St} {H0 H : Hp} {s0 s : Shared} {scope : Scope} {ce : Env} {fp : List Addr} (I0 : Inv X pins σ H0 s0) (hL : s0.heap.objs.size ≤ ce.locals) (I : Inv (X.blk s0 H0 scope ce fp) [] σ' H s)
    (kp : ∀ b o, s0.heap.get? b = some o → H0 b = none → (∀ v, o.data ≠ .cell v) → s.heap.get? b = some o ∧ H b = none) : Inv (blkH X s0 H0 scope ce fp) [] σ' H s :=
  ⟨⟨I.ok.mod, I.ok.kind, I.ok.glob, I.ok.blt, I.ok.above, I.ok.inj, I.ok.has, I.ok.cab, I.ok.hd, I.ok.frames, I.ok.stk, I.ok.exf, I.ok.bs, I.ok.bsz, I.ok.noex, I.ok.exfs, I.ok.funs, I.ok.frf⟩, I.os, I.bare, I.base, I.loc, I.cell, I.free, I.freeC,
    fun p hp => by
      have hp : p ∈ X.pn := by rw [List.append_nil] at hp; exact hp
      obtain ⟨e, n, nl, nf, d⟩ := I0.pin p (List.mem_append_left _ hp)
      obtain ⟨e1, n1⟩ := kp _ _ e n d
      refine ⟨e1, n1, fun z => ?_, fun hm => ?_, d⟩
      · have lt := Heap.lt_size e
        rw [z] at lt
        exact absurd (Nat.lt_of_lt_of_le lt hL) (Nat.lt_irrefl _)
      · exact (List.mem_cons.mp (I0.stkSub p.1 hm)).elim nl nf, I.hok, I.len⟩
/-- the turns of a list comprehension, an exception being handled -/
theorem lc_hot {pins : List (Addr × Obj)} {s : Shared} {σ : L2.St} {H : Hp} {Q : VK} {elt tg iter : Expr} {ifs : List Expr} {scope : Scope} {own : List (Str × Nat)} {pos pos' : Pos} {wi : TI} {g : TG} {tt : TT} {te : TE} {use : Option (Value → Sem Unit)} {Qf : Value → Shared → Prop}
    (hc : HotC X) (hN : X.N.Nodup) (I : Inv X pins σ H s) (hi : PIH X tg iter wi) (ok : BlkOk X.N X.env.scope scope own)
    (hg : ∀ (s : Shared) (H : Hp) (C : Addr) (cl : List (Str × Addr)) (fp : List Addr), PG (blkH X s H scope (compEnvC scope cl C X.env) fp) tg g) (ht : ∀ (s : Shared) (H : Hp) (C : Addr) (cl : List (Str × Addr)) (fp : List Addr), PTs (blkH X s H scope (compEnvC scope cl C X.env) fp) ifs tt)
    (he : ∀ (s : Shared) (H : Hp) (C : Addr) (cl : List (Str × Addr)) (fp : List Addr), PE (blkH X s H scope (compEnvC scope cl C X.env) fp) elt te) (hs : ∀ x, foldedSetIterable iter X.env x = pure x)
    (h : tLc wi g tt te (own.map (·.2)) σ H Q)
    (hRR : ∀ D C s' m H', Inv X pins σ H' s' → Q (.ref D) H' → s'.heap.Ns C m → FpOk X pins H' C → compPost (model X.prog X.w) X.A X.xe use Qf (.ref D) C (.ok .next) s') :
    wpAny (model X.prog X.w) X.A (comprehension (.ListComp elt [⟨tg, iter, ifs, 0⟩] scope pos) scope X.env pos' (newList []) false (eval iter X.env) use) Qf X.xe s := by
  have hfree : ∀ y ∈ scope.names, y.2 = .free → ∃ c, X.env.cells.lookup y.1 = some c := fun y hy e => (ok.free y hy e).elim (fun k => I.ok.has _ (.inl k)) fun k => I.ok.has _ (.inr k)
  refine wpAny_comprehension_free (use := use) rfl hs (closure_ok hfree) ok.kind (fun y hy e => by rw [ok.uniq y hy, e]) (thn (hi.run pins s σ H _ I h) fun xv s1 hx => thn hx fun itv s2 h2 => ?_)
  obtain ⟨it, fp, tn, J, H2, rfl, I2, T, st2, f2, q⟩ := h2
  refine wpAny_newObj_type (newEnv_comp ?_) (by show 0 ≤ sizeLine; decide)
  have hDn : H2 s2.heap.objs.size = none := I2.hok.fresh (Nat.le_refl _)
  obtain ⟨W, ⟨m0, w0⟩, turn⟩ := q _ hDn
  have I3 : Inv X pins σ (upd H2 s2.heap.objs.size (.lst [])) { s2 with heap := s2.heap.push { cls := .type "list", data := .seq ([] : List Value).toArray } } :=
    I2.laid (t' := s2.toks) (fun b o e => Heap.get?_push_of_some _ e) (Nat.le_refl _) ⟨Nat.zero_le _, [], 0, .nil, Heap.get?_push_size _ rfl⟩
  have old : ∀ b ∈ fp, b < s2.heap.objs.size := fun b hb => let ⟨_, e, _⟩ := T.obj _ _ st2 b hb; Heap.lt_size e
  generalize hD : s2.heap.objs.size = D at *
  generalize hs3 : ({ s2 with heap := s2.heap.push { cls := .type "list", data := .seq ([] : List Value).toArray } } : Shared) = s3 at *
  have h3 : s3.heap = s2.heap.push { cls := .type "list", data := .seq ([] : List Value).toArray } := by rw [← hs3]
  have f3 : ∀ b ∈ fp, FpOk X pins (upd H2 D (.lst [])) b ∧ b < s3.heap.objs.size := fun b hb => by
    have lt := old b hb
    exact ⟨⟨(upd_ne (Nat.ne_of_lt lt)).trans (f2 b hb).1, (f2 b hb).2⟩, by rw [h3, Heap.size_push, hD]; exact Nat.lt_succ_of_lt lt⟩
  have st3 : tn 0 s3.heap := T.keep _ _ _ st2 fun b _ o e => by rw [h3]; exact Heap.get?_push_of_some _ e
  have I40 := block_start I3 ok hN f3
  have pg := hg s3 (upd H2 D (.lst [])) s3.heap.objs.size (cellsFrom (s3.heap.objs.size + 1) scope.names (cloFrom X.env.cells scope.names [])) fp
  have pt := ht s3 (upd H2 D (.lst [])) s3.heap.objs.size (cellsFrom (s3.heap.objs.size + 1) scope.names (cloFrom X.env.cells scope.names [])) fp
  have pe := he s3 (upd H2 D (.lst [])) s3.heap.objs.size (cellsFrom (s3.heap.objs.size + 1) scope.names (cloFrom X.env.cells scope.names [])) fp
  have nfp : ∀ b ∈ fp, (upd H2 D (.lst [])) b = none := fun b hb => (f3 b hb).1.1
  show codeAny _ _ (.compStart (.ListComp elt [⟨tg, iter, ifs, 0⟩] scope pos) 0 (.ref it) (.ref D) (compEnvC scope (cellsFrom (s3.heap.objs.size + 1) scope.names (cloFrom X.env.cells scope.names [])) s3.heap.objs.size X.env)) (compPost (model X.prog X.w) X.A X.xe use Qf (.ref D) s3.heap.objs.size) { s3 with heap := pushCells (s3.heap.push { cls := .type "dict", data := .dict #[] }) scope.names }
  generalize hce : compEnvC scope (cellsFrom (s3.heap.objs.size + 1) scope.names (cloFrom X.env.cells scope.names [])) s3.heap.objs.size X.env = ce at I40 pg pt pe ⊢
  have cL : ce.locals = s3.heap.objs.size := by subst hce; rfl
  generalize hH3 : upd H2 D (.lst []) = H3 at I3 I40 pg pt pe w0 nfp f3
  generalize hs4 : ({ s3 with heap := pushCells (s3.heap.push { cls := .type "dict", data := .dict #[] }) scope.names } : Shared) = s4 at I40 ⊢
  have k4 : ∀ b o, s3.heap.get? b = some o → s4.heap.get? b = some o := fun b o e => by rw [← hs4]; exact pushCells_keeps _ _ _ _ (Heap.get?_push_of_some _ e)
  have st4 : tn 0 s4.heap := T.keep _ _ _ st3 fun b _ o e => k4 b o e
  have I4 : Inv (blkH X s3 H3 scope ce fp) [] (wipe σ (own.map (·.2))) H3 s4 := Inv.toBlkH I3 (by rw [cL]; exact Nat.le_refl _) I40 fun b o e n _ => ⟨k4 b o e, n⟩
  have hcB : HotC (blkH X s3 H3 scope ce fp) := hc
  have cells : ∀ {σ' : L2.St} {H' : Hp} {s' : Shared}, Inv (blkH X s3 H3 scope ce fp) [] σ' H' s' → tn 0 s4.heap → (∀ b ∈ fp, H' b = none) → ∀ b ∈ fp, FpOk (blkH X s3 H3 scope ce fp) [] H' b := fun {σ' H' s'} I' _ hn b hb =>
    ⟨hn b hb, (I'.ok.exf b hb).1, I'.ok.exfs b hb, .inl hb, fun x c e => (I'.ok.exf b hb).2 x c e, fun p hp => (f3 b hb).1.2.2.2.2.2 p (by
      have hp : p ∈ X.pn := by rw [List.append_nil] at hp; exact hp
      exact List.mem_append_left _ hp)⟩
  have loop : codeAny (model X.prog X.w) X.A (.compLoop (.ListComp elt [⟨tg, iter, ifs, 0⟩] scope pos) 0 (.ref it) (.ref D) ce) (compPost (model X.prog X.w) X.A X.xe use Qf (.ref D) s3.heap.objs.size) s4 := by
    refine compLoop_any (fun n s' => ∃ i H', Inv (blkH X s3 H3 scope ce fp) [] (wipe σ (own.map (·.2))) H' s' ∧ tn i s'.heap ∧ (∀ b ∈ fp, H' b = none) ∧ W i n H') ?_ m0 ⟨0, H3, I4, st4, nfp, w0⟩
    rintro n s5 ⟨i, H5, I5, st5, n5, w5⟩
    rcases turn i n H5 w5 with ⟨stop, qq⟩ | ⟨go, Nx, hNx, step⟩
    · refine thnF (T.done (blkH X s3 H3 scope ce fp) rfl rfl rfl hcB i [] s5 _ H5 (fun _ _ => False) I5 (cells I5 st4 n5) st5 stop) fun r s6 ⟨hr, I6⟩ => ?_
      subst hr
      have I7 : Inv X pins σ H5 s6 := I3.call' (ch := fp) I6.os I6.base I6.hok I6.bare fun b hb => let z := (f3 b hb).1; ⟨z.2.2.2.1, z.2.1, z.2.2.2.2.1, z.2.2.2.2.2⟩
      have nC : H5 s3.heap.objs.size = none := cL ▸ (show H5 ce.locals = none from I6.free)
      obtain ⟨m, hn, _⟩ := I6.loc
      have hn : s6.heap.Ns s3.heap.objs.size m := cL ▸ (show s6.heap.Ns ce.locals m from hn)
      exact hRR D s3.heap.objs.size s6 m H5 I7 qq hn (I3.fpOk (Nat.le_refl _) nC)
    · refine thnF (T.item (blkH X s3 H3 scope ce fp) rfl rfl rfl hcB i [] s5 _ H5 (fun _ _ => False) I5 (cells I5 st4 n5) st5 go) fun r s6 ⟨u, hr, h6⟩ => ?_
      subst hr
      refine thnF h6 fun _ s7 ⟨x, H7, I7, r7, y7, st7, n7⟩ => ?_
      refine thnF (pg.run _ s7 _ H7 x u _ (I7.pinned (cells I7 st4 n7) (T.obj _ _ st7)) r7 (step x H7 y7)) fun _ s8 ⟨σ8, H8, I8, hw8, q8⟩ => ?_
      refine thnF (pt.run _ s8 σ8 H8 _ I8 q8) fun b s9 ⟨H9, I9, q9⟩ => ?_
      have fin : ∀ {s' : Shared} {H' : Hp}, Inv (blkH X s3 H3 scope ce fp) ([] ++ pinsAt fp s7.heap) σ8 H' s' → Nx H' → ∃ m, m < n ∧ ∃ i H', Inv (blkH X s3 H3 scope ce fp) [] (wipe σ (own.map (·.2))) H' s' ∧ tn i s'.heap ∧ (∀ b ∈ fp, H' b = none) ∧ W i m H' := fun {s' H'} I' nx => by
        obtain ⟨m', hm, w'⟩ := hNx H' nx
        have pin' : ∀ b ∈ fp, ∀ o, s7.heap.get? b = some o → s'.heap.get? b = some o ∧ H' b = none := fun b hb o e =>
          let z := I'.pin (b, o) (List.mem_append_right _ (List.mem_append_right _ (mem_pinsAt hb e)))
          ⟨z.1, z.2.1⟩
        refine ⟨m', hm, i + 1, H', (I'.unpinned (pins := [])).weak (by rw [← hw8, wipe_length]) (fun j v e => (wipe_some (hw8 ▸ e)).1), T.keep _ _ _ st7 fun b hb o e => (pin' b hb o e).1, fun b hb => ?_, w'⟩
        obtain ⟨o, e, _⟩ := T.obj _ _ st7 b hb
        exact (pin' b hb o e).2
      cases b with
      | false =>
        rw [if_neg Bool.false_ne_true] at q9 ⊢
        exact fin I9 q9
      | true =>
        rw [if_pos rfl] at q9 ⊢
        refine thnF (pe.run _ s9 σ8 H9 _ I9 q9) fun z s10 ⟨yv, H10, I10, r10, acc, hD10, hz10, nx⟩ => ?_
        exact app_ok (X := blkH X s3 H3 scope ce fp) I10 hD10 hz10 r10 fun s11 I11 => fin I11 nx
  exact codeAny_compStart_list loop (T.self X.A 0 _ _ _ st4 loop)
theorem ps_setLcH {i : Nat} {y : Str} {py : Pos} {elt tg iter : Expr} {ifs : List Expr} {scope : Scope} {own : List (Str × Nat)} {pos spos : Pos} {wi : TI} {g : TG} {tt : TT} {te : TE} (hc : HotC X) (hN : X.N.Nodup) (hy : X.N[i]? = some y) (hyl : X.env.scope.names.lookup y = some .local)
    (hsw : swapsWith (.ListComp elt [⟨tg, iter, ifs, 0⟩] scope pos) (some (.Name y py)) spos.line X.env = pure true) (hi : PIH X tg iter wi) (ok : BlkOk X.N X.env.scope scope own)
    (hg : ∀ (s : Shared) (H : Hp) (C : Addr) (cl : List (Str × Addr)) (fp : List Addr), PG (blkH X s H scope (compEnvC scope cl C X.env) fp) tg g) (ht : ∀ (s : Shared) (H : Hp) (C : Addr) (cl : List (Str × Addr)) (fp : List Addr), PTs (blkH X s H scope (compEnvC scope cl C X.env) fp) ifs tt)
    (he : ∀ (s : Shared) (H : Hp) (C : Addr) (cl : List (Str × Addr)) (fp : List Addr), PE (blkH X s H scope (compEnvC scope cl C X.env) fp) elt te) (hs : ∀ x, foldedSetIterable iter X.env x = pure x := by intro _; rfl) :
    PS X (.Assign [.Name y py] (.ListComp elt [⟨tg, iter, ifs, 0⟩] scope pos) spos) (tAsg (tLc wi g tt te (own.map (·.2))) (gName i)) := by
  refine ⟨fun pins s σ H D I h => ?_⟩
  rw [exec_Assign_Name_used _ _ _ _ hsw]
  refine wpAny_bind (wpAny_standAt (wpAny_bind ?_))
  show wpAny _ X.A (do let _ ← comprehension (.ListComp elt [⟨tg, iter, ifs, 0⟩] scope pos) scope X.env (firstIterPos [⟨tg, iter, ifs, 0⟩] pos) (newList []) false (eval iter X.env) (some (assign (.Name y py) X.env))) _ _ s
  have h : tLc wi g tt te (own.map (·.2)) σ H (fun x H1 => gName i x σ H1 D.nx) := h
  refine wpAny_bind (thn (lc_hot (Qf := fun _ s' => SP X pins D .next s') hc hN I hi ok hg ht he hs h fun L C s' m H' I' q hn f => ?_) fun _ s' hq => wpAny_pure (wpAny_pure hq))
  obtain ⟨f0, f1, f2, f3, f4, f5⟩ := f
  refine wpAny_assign_Name (store_ok2 (v := V.ref L) I' hN hy (.inl hyl) rfl (fun s2 I2 ⟨a, sb, ha⟩ => ⟨m, hn.sameBut sb fun e => ha.elim (fun z => f1 (e.trans z)) fun z => f4 y a z e.symm, fun h3 sb3 => ?_⟩) (.inr hyl))
  exact ⟨_, H', I2.turned (t' := s2.toks) (fun b o hb e => (sb3.2 b hb).trans e) f0 f1 f3 f4 f5, q⟩
end
end DL

set_option Elab.async false
set_option linter.all false
set_option maxRecDepth 100000
set_option maxHeartbeats 4000000
/-! DL12: repr of data; stars in displays; list * int; count; len(set(..)); is; a def chosen from a list, called. -/
namespace DL
open PySem PySem.Spec L2 StX
open PyProof.Rows hiding St

/-! ### repr -/
def rRepr (K : PySem.W.Frag) : List V → Hp → VK → Prop := fun xs H Q => ∃ (a : Addr) (d : D), xs = [.ref a] ∧ Dp K H (.ref a) d ∧ d.showable = true ∧ d.canLay0 = true ∧ d.depth ≤ 50 ∧ d.shown.length ≤ sizeLine ∧ Q (.str d.shown) H
theorem call_repr {X : Cx} (hg : X.A.guards = some []) (hu : X.A.units + 64 < cLine) : CallR X (.builtin "repr") (rRepr X.K) := by
  intro pins s σ H xs us Q I r h
  obtain ⟨a, d, rfl, hd, h1, h2, h3, h4, q⟩ := h
  obtain ⟨u, rfl, ru⟩ := r.one
  obtain rfl : u = Value.ref a := ru
  obtain ⟨as, rd⟩ := Dp.reads I d (.ref a) (.ref a) hd rfl
  exact repr_of_reads' rd h1 (PySem.PyData.noDict_hsm (PySem.PyData.hasDict_of_canLay d h2)) hg (by omega) (fun b o e => e) (fun h' u' tk k => ⟨.str d.shown, H, I.kept k, ⟨_, rfl⟩, q⟩) h4
def reprD (ds : List D) : Option D := match ds with
  | [d] => if (seqD d).isSome = true ∧ d.showable = true ∧ d.canLay0 = true ∧ d.depth ≤ 50 ∧ d.shown.length ≤ sizeLine then some (.str d.shown) else none
  | _ => none
section
variable {C : Ctx}
theorem vn_repr : VN C (rRepr C.K) reprD := by
  intro H B xs ds d Q L r e q
  cases r with
  | nil => cases e
  | cons a b =>
    cases b with
    | cons _ _ => cases e
    | nil =>
      obtain ⟨⟨h0, h1, h2, h3, h4⟩, rfl⟩ := if_some e
      obtain ⟨ys, ey⟩ := Option.isSome_iff_exists.mp h0
      obtain ⟨sq, vs, rfl, _, _⟩ := a.seq ey
      exact ⟨_, _, rfl, Rp.dp L h2 a, h1, h2, h3, h4, q _ H B .refl (.str _)⟩

/-! ### *e in a display -/
def starM (f : M D) (k : M (List D)) : M (List D) := bindM f fun d => bindM (liftO (seqD d)) fun xs => bindM k fun ds => pureM (xs ++ ds)
theorem satA_star {te : TE} {t : TA} {f : M D} {k : M (List D)} (h : Sat C te f) (h2 : SatA C t k) : SatA C (tStar C.K te t) (starM f k) := by
  intro N σ H B g Q R q
  refine h.run (P := fun x => FinA C N σ B x Q) R q (fun n ct z => z) (fun z => z) fun d g' v H1 B1 _ R1 L1 rp q1 => ?_
  cases e : seqD d with
  | none => rw [e] at q1; exact q1.elim
  | some xs =>
    rw [e] at q1
    obtain ⟨sq, vs, rfl, hq, rr⟩ := rp.seq e
    refine ⟨_, vs, rfl, (sq_or (Sq.le R1.sub hq)).symm, ?_⟩
    exact h2.run (P := fun x => FinA C N σ B x Q) R1 q1 (fun n ct z => z) (fun z => z) fun ds g2 ws H2 B2 _ R2 L2' rp2 q2 => q2 _ H2 B2 R2 (L1.trans L2') ((rr.le L2').append rp2)

/-! ### list * int -/
theorem op_mulX {X : Cx} : OpR X (binaryOp .Mult) (fun x y H Q => rI CMul (fun i j => .int (i * j)) x y H Q ∨ rRep x y H Q) := op_mul.or op_rep
def mulXD : D → D → Option D
  | .list xs, .int k => if -(2 ^ 63) ≤ k ∧ k < 2 ^ 63 ∧ xs.length * k.toNat ≤ sizeLine then some (.list (List.replicate k.toNat xs).flatten) else none
  | x, y => mulD x y
theorem Rps.rep {K : PySem.W.Frag} {B : Hp} {vs : List V} {ds : List D} (r : Rps K B vs ds) : ∀ n : Nat, Rps K B (List.replicate n vs).flatten (List.replicate n ds).flatten
  | 0 => .nil
  | n + 1 => by rw [List.replicate_succ, List.replicate_succ, List.flatten_cons, List.flatten_cons]; exact r.append (Rps.rep r n)
theorem v2_mulX : V2 C (fun x y H Q => rI CMul (fun i j => .int (i * j)) x y H Q ∨ rRep x y H Q) mulXD := by
  intro H B x y dx dy d Q L rx ry e q
  cases rx with
  | lst hx rx =>
    rename_i a1 vs1 ds1
    cases ry with
    | int k =>
      obtain ⟨⟨h1, h2, h3⟩, rfl⟩ := if_some e
      refine .inr ⟨_, k, vs1, rfl, rfl, L _ _ hx, h1, h2, by rw [rx.length]; exact h3, fun p hp => ?_⟩
      have G := Grow.upd (o := .lst (List.replicate k.toNat vs1).flatten) hp L
      exact q _ _ _ G (.lst upd_same ((rx.rep _).le G.b))
    | _ => cases e
  | int i => exact .inl (v2_mul H B _ _ _ _ d Q L (.int i) ry e q)
  | _ => cases e

/-! ### is -/
def isNo (d : D) : Bool := match d with
  | .none => true
  | _ => false
def isND (neg : Bool) : D → D → Option D := fun x y => match y with
  | .none => some (.bool (neg.xor (isNo x)))
  | _ => none
theorem isN_eq {B : Hp} {x : V} {dx : D} (r : Rp C.K B x dx) : isNo dx = decide (x = .non) := by cases r <;> simp [isNo]
theorem v2_isN : V2 C (fun x y H Q => y = .non ∧ Q (.bl (decide (x = .non))) H) (isND false) := by
  intro H B x y dx dy d Q L rx ry e q
  cases ry with
  | non =>
    cases e
    refine ⟨rfl, q _ H B .refl ?_⟩
    rw [isN_eq rx, Bool.false_xor]
    exact .bl _
  | _ => cases e
theorem v2_notN : V2 C (fun x y H Q => y = .non ∧ Q (.bl (!decide (x = .non))) H) (isND true) := by
  intro H B x y dx dy d Q L rx ry e q
  cases ry with
  | non =>
    cases e
    refine ⟨rfl, q _ H B .refl ?_⟩
    rw [isN_eq rx, Bool.true_xor]
    exact .bl _
  | _ => cases e
def isBD (neg : Bool) : D → D → Option D
  | .bool a, .bool b => some (.bool (neg.xor (decide (a = b))))
  | _, _ => none
theorem v2_isB : V2 C rIsB (isBD false) := by
  intro H B x y dx dy d Q L rx ry e q
  cases rx with
  | bl a =>
    cases ry with
    | bl b => cases e; exact ⟨a, b, rfl, rfl, q _ H B .refl (by rw [Bool.false_xor]; exact .bl _)⟩
    | _ => cases e
  | _ => cases e
theorem v2_notB : V2 C rNotB (isBD true) := by
  intro H B x y dx dy d Q L rx ry e q
  cases rx with
  | bl a =>
    cases ry with
    | bl b => cases e; exact ⟨a, b, rfl, rfl, q _ H B .refl (by rw [Bool.true_xor]; exact .bl _)⟩
    | _ => cases e
  | _ => cases e

/-! ### xs.count(k), len(set(xs)) -/
def listInts (d : D) : Option (List Int) := match d with
  | .list xs => intsD xs
  | _ => none
def oneInt (d : D) : Option Int := match d with
  | .int n => some n
  | _ => none
theorem oneInt_some {d : D} {n : Int} (h : oneInt d = some n) : d = .int n := by
  cases d <;> first | (cases h; rfl) | cases h
theorem Rp.listInts {B : Hp} {v : V} {d : D} {ns : List Int} (r : Rp C.K B v d) (h : listInts d = some ns) : ∃ a, v = .ref a ∧ B a = some (.lst (ns.map V.int)) ∧ d = .list (ns.map PyData.int) := by
  cases r with
  | lst hb rr =>
    have h : intsD _ = some ns := h
    obtain rfl := intsD_some h
    obtain rfl := rr.of_ints
    exact ⟨_, rfl, hb, rfl⟩
  | _ => cases h
def cntM (f k : M D) : M D := bindM f fun d => bindM (liftO (listInts d)) fun ns => bindM k fun y => bindM (liftO (oneInt y)) fun n => pureM (.int (ns.count n : Nat))
theorem sat_cnt {to te : TE} {f k : M D} (h : Sat C to f) (h2 : Sat C te k) : Sat C (tBM C.K "list" (rCntI C.K) to (tCons te tNil)) (cntM f k) := by
  intro N σ H B g Q R q
  refine h.run (P := fun x => Fin C N σ B x Q) R q (fun n ct z => z) (fun z => z) fun d g' v H1 B1 f1 R1 L1 rp q1 => ?_
  cases e : listInts d with
  | none => rw [e] at q1; exact q1.elim
  | some ns =>
    rw [e] at q1
    obtain ⟨a, rfl, hb, rfl⟩ := rp.listInts e
    refine ⟨.inl ⟨rfl, _, .inl (.inl (R1.sub _ _ hb))⟩, ?_⟩
    refine h2.run (P := fun x => Fin C N σ B x Q) R1 q1 (fun n ct z => z) (fun z => z) fun y g2 w H2 B2 _ R2 L2' rp2 q2 => ?_
    cases e1 : oneInt y with
    | none => rw [e1] at q2; exact q2.elim
    | some n =>
      rw [e1] at q2
      obtain rfl := oneInt_some e1
      cases rp2
      exact ⟨a, ns, n, rfl, rfl, SqL.of (R2.sub _ _ (L2' _ _ hb)), q2 _ H2 B2 R2 (L1.trans L2') (.int _)⟩
/-- how many unlike ones -/
def unlike (ns : List Int) : Nat := (firstMet (fun i => ns.getD i 0) ns.length).length
def tLenSet2 (K : PySem.W.Frag) (ta : TE) : TE := fun σ H Q => ta σ H fun x H1 => ∃ (l : Addr) (ns : List Int), x = V.ref l ∧ SqL K H1 l (ns.map V.int) ∧ ns.length < 64 ∧ Q (.int (unlike ns : Nat)) H1
theorem pe_lenSet2 {X : Cx} {a : Expr} {ta : TE} {p p2 q pos : Pos} (hc : X.calm = true) (hg : Gl X "len") (hm : X.mg "len" = none) (hg2 : Gl X "set") (hm2 : X.mg "set" = none) (ha : PE X a ta)
    (na : starEach [a] X.env = (false, eval a X.env) :: starEach [] X.env := by rfl) : PE X (.Call (.Name "len" p) [.Call (.Name "set" p2) [a] [] q] [] pos) (tLenSet2 X.K ta) := by
  refine ⟨fun pins s σ H Q I h => ?_⟩
  refine Call_ (ld_blt I hg hm PySem.boot_len (PyProof.Rows.callWith_builtin1 (PyProof.Rows.args_cons ?_ rfl) rfl rfl))
  refine Call_ (ld_blt I hg2 hm2 PyProof.Rows.boot_set (PyProof.Rows.callWith_type1 (PyProof.Rows.args_cons (thn (ha.run pins s σ H _ I h) fun v s1 ⟨x, H1, I1, r1, q1⟩ => PyProof.Rows.args_nil ?_) na) na rfl))
  obtain ⟨l, ns, rfl, hq, h1, q1⟩ := q1
  cases r1
  obtain ⟨its, r, pl, hz⟩ := I1.list hq
  have hl : its.toArray.size = ns.length := by rw [List.size_toArray, ← r.length, List.length_map]
  refine call_set_list (I1.ok.hd hc) pl.isList (ns := ns) (by simpa using r.ints) (by unfold scanBound; omega) fun h' tk hS hk => PyProof.Rows.args_nil ?_
  rw [hl] at hS
  obtain ⟨o, es, ep, t, ho, hex, hd, _, _, _, hf, hn⟩ := hS
  have I2 : Inv X pins σ H1 { s1 with heap := h', toks := tk } := I1.kept fun b o e => hk b o (Heap.lt_size e) e
  have hle : unlike ns ≤ ns.length := by
    have : ∀ (l : List Int) (acc : List Int), (l.foldl step_dedup acc).length ≤ acc.length + l.length := by
      intro l
      induction l with
      | nil => intro acc; simp
      | cons x r ih =>
        intro acc
        rw [List.foldl_cons]
        refine Nat.le_trans (ih _) ?_
        unfold step_dedup
        split
        · simp
        · simp; omega
    have := this ((List.range ns.length).map fun i => ns.getD i 0) []
    simpa [unlike, firstMet] using this
  refine call_len_set ho hex hd hf (by rw [hn]; show ((unlike ns : Nat) : Int) < _; omega) ⟨.int (unlike ns : Nat), H1, I2.tok _, ⟨_, by rw [hn]; rfl⟩, q1⟩
def lenSetD (d : D) : Option D := (listInts d).bind fun ns => if ns.length < 64 then some (.int (unlike ns : Nat)) else none
theorem sat_lenSet {ta : TE} {f : M D} (h : Sat C ta f) : Sat C (tLenSet2 C.K ta) (op1 lenSetD f) := by
  intro N σ H B g Q R q
  refine h.run (P := fun x => Fin C N σ B x Q) R q (fun n ct z => z) (fun z => z) fun d g' v H1 B1 f1 R1 L1 rp q1 => ?_
  obtain ⟨dd, e, q2⟩ := lift_fin R1 L1 q1
  unfold lenSetD at e
  cases e1 : listInts d with
  | none => rw [e1] at e; cases e
  | some ns =>
    rw [e1] at e
    obtain ⟨h1, rfl⟩ := if_some e
    obtain ⟨a, rfl, hb, rfl⟩ := rp.listInts e1
    exact ⟨a, ns, rfl, SqL.of (R1.sub _ _ hb), h1, q2 _ H1 B1 .refl (.int _)⟩
end
end DL

set_option Elab.async false
set_option linter.all false
set_option maxRecDepth 100000
set_option maxHeartbeats 4000000
/-! DL13: the words in which a text's derivation is printed. -/
namespace DL
open PySem PySem.Spec L2 StX
open PyProof.Rows hiding St

abbrev cx (X : Cx) (s : Option StC) (E : St → XK) : Ctx := ⟨X.K, X.mg, s, E⟩
section
variable {X : Cx} {s : Option StC} {E : St → XK}
variable {a b c e : Expr} {es : List Expr} {f k l : M D} {ft kt : M Bool} {fa : M (List D)} {pos p p1 p2 apos : Pos}
theorem gv (i : Nat) {x : Str} (hN : X.N[i]? = some x := by rfl) (hv : Vis X.env.scope x := by first | exact Or.inl rfl | exact Or.inr (Or.inl rfl) | exact Or.inr (Or.inr rfl)) (hd : (x == ("__debug__" : Str)) = false := by decide)
    (hcd : (x == ("__classdict__" : Str)) = false := by decide) : DE (cx X s E) X (.Name x pos) (getM i) := dE (pe_var hN hv hd hcd) sat_var
theorem gint {i : Int} {j} : DE (cx X s E) X (.Constant (.int i) j pos) (pureM (.int i)) := dE pe_int sat_int
theorem gstr {i : Str} {j} : DE (cx X s E) X (.Constant (.str i) j pos) (pureM (.str i)) := dE pe_str sat_str
theorem gbl {i : Bool} {j} : DE (cx X s E) X (.Constant (.bool i) j pos) (pureM (.bool i)) := dE pe_bl sat_bl
theorem gnon {j} : DE (cx X s E) X (.Constant .none j pos) (pureM .none) := dE pe_non sat_non
theorem gglob {x : Str} {v : V} {d : D} {u : Value} (hm : X.mg x = some u) (r : RelV v u) (h : ∀ B, Rp X.K B v d) (hg : Gl X x := by rfl) (hd : (x == ("__debug__" : Str)) = false := by decide) : DE (cx X s E) X (.Name x pos) (pureM d) := dE (pe_glob hg hm r hd) (sat_const h)
/-! operators -/
theorem gadd (ha : DE (cx X s E) X a f) (hb : DE (cx X s E) X b k) : DE (cx X s E) X (.BinOp a .Add b pos) (op2 addD f k) := dE (pe_op op_addX ha hb) (sat_op (C := cx X s E) v2_add sE sE)
theorem gsub (ha : DE (cx X s E) X a f) (hb : DE (cx X s E) X b k) : DE (cx X s E) X (.BinOp a .Sub b pos) (op2 subD f k) := dE (pe_op op_sub ha hb) (sat_op v2_sub sE sE)
theorem gmul (ha : DE (cx X s E) X a f) (hb : DE (cx X s E) X b k) : DE (cx X s E) X (.BinOp a .Mult b pos) (op2 mulXD f k) := dE (pe_op op_mulX ha hb) (sat_op v2_mulX sE sE)
theorem gfdiv (ha : DE (cx X s E) X a f) (hb : DE (cx X s E) X b k) : DE (cx X s E) X (.BinOp a .FloorDiv b pos) (op2 fdivD f k) := dE (pe_op op_fdivN ha hb) (sat_op v2_fdiv sE sE)
theorem gmod (ha : DE (cx X s E) X a f) (hb : DE (cx X s E) X b k) : DE (cx X s E) X (.BinOp a .Mod b pos) (op2 modD f k) := dE (pe_op op_modN ha hb) (sat_op v2_mod sE sE)
theorem gpow (ha : DE (cx X s E) X a f) (hb : DE (cx X s E) X b k) : DE (cx X s E) X (.BinOp a .Pow b pos) (op2 powD f k) := dE (pe_op op_pow ha hb) (sat_op v2_pow sE sE)
theorem gshl (ha : DE (cx X s E) X a f) (hb : DE (cx X s E) X b k) : DE (cx X s E) X (.BinOp a .LShift b pos) (op2 shlD f k) := dE (pe_op op_shl ha hb) (sat_op v2_shl sE sE)
theorem gshr (ha : DE (cx X s E) X a f) (hb : DE (cx X s E) X b k) : DE (cx X s E) X (.BinOp a .RShift b pos) (op2 shrD f k) := dE (pe_op op_shr ha hb) (sat_op v2_shr sE sE)
theorem gband (ha : DE (cx X s E) X a f) (hb : DE (cx X s E) X b k) : DE (cx X s E) X (.BinOp a .BitAnd b pos) (op2 bandD f k) := dE (pe_op op_and ha hb) (sat_op v2_and sE sE)
def negD (d : D) : Option D := match d with
  | .int i => some (.int (-i))
  | _ => none
theorem v1_neg {C : Ctx} : V1 C (rU fun i => .int (-i)) negD := by
  intro H B x dx d Q L r e q
  cases r with
  | int i => cases e; exact ⟨i, rfl, q _ H B .refl (.int _)⟩
  | _ => cases e
theorem gneg (ha : DE (cx X s E) X a f) : DE (cx X s E) X (.UnaryOp .USub a pos) (op1 negD f) := dE (pe_un un_neg ha) (sat_un v1_neg sE)
/-- a comparison, by its values -/
theorem gcmp {op : CmpOp} {r : R2} {h : D → D → Option D} (ho : OpR X (compareOp op) r) (hr : V2 (cx X s E) r h) (ha : DE (cx X s E) X a f) (hb : DE (cx X s E) X b k) (hm : behindInMarks op b = false := by first | exact nomark _ | with_unfolding_all rfl) : DE (cx X s E) X (.Compare a [op] [b] pos) (op2 h f k) := dE (pe_cmpR ho ha hb hm) (sat_op hr sE sE)
theorem gchain {op op' : CmpOp} {r r' : R2} {h h' : D → D → Option D} (ho : OpR X (compareOp op) r) (hr : V2 (cx X s E) r h) (ho' : OpR X (compareOp op') r') (hr' : V2 (cx X s E) r' h') (ha : DE (cx X s E) X a f) (hb : DE (cx X s E) X b k) (hc : DE (cx X s E) X c l)
    (hm : lastMarks [op, op'] [b, c] = false := by rfl) : DE (cx X s E) X (.Compare a [op, op'] [b, c] pos) (chainM h h' f k l) := dE (pe_chain ho ho' ha hb hc hm) (sat_chain hr hr' sE sE sE)
theorem gdin (hu : X.A.units + 65 < cLine) (ha : DE (cx X s E) X a f) (hb : DE (cx X s E) X b k) (hm : behindInMarks .In b = false := by rfl) : DE (cx X s E) X (.Compare a [.In] [b] pos) (op2 (dinD false) f k) := dE (pe_cmp (pc_din (by omega) ha hb) hm) (sat_din sE sE)
theorem gdnotin (hu : X.A.units + 65 < cLine) (ha : DE (cx X s E) X a f) (hb : DE (cx X s E) X b k) (hm : behindInMarks .NotIn b = false := by rfl) : DE (cx X s E) X (.Compare a [.NotIn] [b] pos) (op2 (dinD true) f k) := dE (pe_cmp (pc_dnotin (by omega) ha hb) hm) (sat_dnotin sE sE)
theorem gdinV (hu : X.A.units + 65 < cLine) (i : Nat) {x : Str} {px : Pos} (ha : DE (cx X s E) X a f) (hv : PE X (.Name x px) (tVar i) := by exact pv _) (hm : behindInMarks .In (.Name x px) = false := by rfl) : DE (cx X s E) X (.Compare a [.In] [.Name x px] pos) (dinV false i f) := dE (pe_cmp (pc_din (by omega) ha hv) hm) (sat_dinV sE)
theorem gdnotinV (hu : X.A.units + 65 < cLine) (i : Nat) {x : Str} {px : Pos} (ha : DE (cx X s E) X a f) (hv : PE X (.Name x px) (tVar i) := by exact pv _) (hm : behindInMarks .NotIn (.Name x px) = false := by rfl) : DE (cx X s E) X (.Compare a [.NotIn] [.Name x px] pos) (dinV true i f) := dE (pe_cmp (pc_dnotin (by omega) ha hv) hm) (sat_dnotinV sE)
/-! bools, tests -/
theorem gand (ha : DE (cx X s E) X a f) {rest : List Expr} (hb : DE (cx X s E) X (.BoolOp .And (b :: rest) pos) k) : DE (cx X s E) X (.BoolOp .And (a :: b :: rest) pos) (andV f k) := dE (pe_and ha hb) (sat_andV sE sE)
theorem gor (ha : DE (cx X s E) X a f) {rest : List Expr} (hb : DE (cx X s E) X (.BoolOp .Or (b :: rest) pos) k) : DE (cx X s E) X (.BoolOp .Or (a :: b :: rest) pos) (orV f k) := dE (pe_or ha hb) (sat_orV sE sE)
theorem gone {op : BoolOp} (ha : DE (cx X s E) X a f) : DE (cx X s E) X (.BoolOp op [a] pos) f := pe_one ha
theorem gnot (ha : DE (cx X s E) X a f) : DE (cx X s E) X (.UnaryOp .Not a pos) (notV f) := dE (pe_not ha) (sat_notV sE)
theorem gif (hc : DT (cx X s E) X c ft) (ha : DE (cx X s E) X a f) (hb : DE (cx X s E) X b k) : DE (cx X s E) X (.IfExp c a b pos) (ifM ft f k) := dE (pe_ifExp hc ha hb) (sat_if sT sE sE)
theorem tval (ha : DE (cx X s E) X a f) (he : ∀ whole, isTrue a X.env whole = (do let v ← whole; standAt a.pos; holding [v] (truthy v)) := by intro _; rfl) : DT (cx X s E) X a (asB f) := dT' (pt_val ha he) (satT_b sE)
theorem tcmp {op : CmpOp} {r : R2} {h : D → D → Option D} (ho : OpR X (compareOp op) r) (hr : V2 (cx X s E) r h) (ha : DE (cx X s E) X a f) (hb : DE (cx X s E) X b k) (hm : behindInMarks op b = false := by first | exact nomark _ | with_unfolding_all rfl) : DT (cx X s E) X (.Compare a [op] [b] pos) (asB (op2 h f k)) := dT' (pt_cmpR ho ha hb hm) (satT_t (sat_op hr sE sE))
theorem tchain {op op' : CmpOp} {r r' : R2} {h h' : D → D → Option D} (ho : OpR X (compareOp op) r) (hr : V2 (cx X s E) r h) (ho' : OpR X (compareOp op') r') (hr' : V2 (cx X s E) r' h') (ha : DE (cx X s E) X a f) (hb : DE (cx X s E) X b k) (hc : DE (cx X s E) X c l)
    (hm : lastMarks [op, op'] [b, c] = false := by rfl) : DT (cx X s E) X (.Compare a [op, op'] [b, c] pos) (asB (chainM h h' f k l)) := dT' (pt_chain ho ho' ha hb hc hm) (satT_t (sat_chain hr hr' sE sE sE))
theorem tdin (hu : X.A.units + 65 < cLine) (ha : DE (cx X s E) X a f) (hb : DE (cx X s E) X b k) (hm : behindInMarks .In b = false := by rfl) : DT (cx X s E) X (.Compare a [.In] [b] pos) (asB (op2 (dinD false) f k)) := dT' (pt_cmp (pc_din (by omega) ha hb) hm) (satT_b (sat_din sE sE))
theorem tdnotin (hu : X.A.units + 65 < cLine) (ha : DE (cx X s E) X a f) (hb : DE (cx X s E) X b k) (hm : behindInMarks .NotIn b = false := by rfl) : DT (cx X s E) X (.Compare a [.NotIn] [b] pos) (asB (op2 (dinD true) f k)) := dT' (pt_cmp (pc_dnotin (by omega) ha hb) hm) (satT_b (sat_dnotin sE sE))
theorem tnot (ha : DT (cx X s E) X a ft) : DT (cx X s E) X (.UnaryOp .Not a pos) (notM ft) := dT' (pt_not ha) (satT_not sT)
abbrev DW (C : Ctx) (X : Cx) (e : Expr) (f : M Bool) : Prop := PW X e (toT C f)
theorem dW {C : Ctx} {X : Cx} {e : Expr} {t : TT} {f : M Bool} (h : PW X e t) (s : SatT C t f) : DW C X e f := ⟨fun w pins s0 σ H Q I ⟨N, B, g, R, q⟩ => h.run w pins s0 σ H Q I (s N σ H B g Q R q)⟩
theorem wand1 (ha : DT (cx X s E) X a ft) : DW (cx X s E) X (.BoolOp .And [a] pos) ft := pw_and1 ha
theorem wor1 (ha : DT (cx X s E) X a ft) : DW (cx X s E) X (.BoolOp .Or [a] pos) ft := pw_or1 ha
theorem wand {rest : List Expr} (ha : DT (cx X s E) X a ft) (hb : DW (cx X s E) X (.BoolOp .And (b :: rest) pos) kt) : DW (cx X s E) X (.BoolOp .And (a :: b :: rest) pos) (andM ft kt) := dW (pw_and ha hb) (satT_and sT sT)
theorem wor {rest : List Expr} (ha : DT (cx X s E) X a ft) (hb : DW (cx X s E) X (.BoolOp .Or (b :: rest) pos) kt) : DW (cx X s E) X (.BoolOp .Or (a :: b :: rest) pos) (orM ft kt) := dW (pw_or ha hb) (satT_or sT sT)
theorem tw (h : DW (cx X s E) X a ft) : DT (cx X s E) X a ft := PW.pt h
def yesM : M Bool := pureM true
theorem sat_yes {C : Ctx} : SatT C tYes yesM := fun N σ H B g Q R q => q H B R (.refl _)
theorem tsnil : DTs (cx X s E) X [] yesM := dTs pts_nil sat_yes
theorem tsone (h : DT (cx X s E) X a ft) : DTs (cx X s E) X [a] ft := dTs (pts_one h) sT
/-! arguments, displays -/
theorem anil : DA (cx X s E) X [] (pureM []) := dA pa_nil satA_nil
theorem acons (ha : DE (cx X s E) X e f) (hr : DA (cx X s E) X es fa) (hs : starEach (e :: es) X.env = (false, eval e X.env) :: starEach es X.env := by rfl) : DA (cx X s E) X (e :: es) (consM f fa) := dA (pa_cons ha hr hs) (satA_cons sE sA)
theorem astar (ha : DE (cx X s E) X e f) (hr : DA (cx X s E) X es fa) (hs : starEach (.Starred e p :: es) X.env = (true, eval e X.env) :: starEach es X.env := by rfl) : DA (cx X s E) X (.Starred e p :: es) (starM f fa) := dA (pa_star ha hr hs) (satA_star sE sA)
theorem gtup {x1} (h : DA (cx X s E) X es fa) : DE (cx X s E) X (.Tuple es x1 pos) (tupM fa) := dE (pe_tup h) (sat_tup sA)
theorem flst (h : DA (cx X s E) X es fa) : DF (cx X s E) X (.List es pos) (guardL fa) := dF (pe_lst h) (satF_lst sA)
theorem glst (h : DA (cx X s E) X es fa) : DE (cx X s E) X (.List es pos) (lstM (guardL fa)) := dL (flst h)
theorem gF {fl : M (List D)} (h : DF (cx X s E) X e fl) : DE (cx X s E) X e (lstM fl) := dL h
theorem gD {fl : M (List (List Key × D))} (h : DDc (cx X s E) X e fl) : DE (cx X s E) X e (dctM fl) := dE h sD.sat
/-! subscripts, slices -/
theorem gix (ha : DE (cx X s E) X a f) (hb : DE (cx X s E) X b k) (hs : PlainIx b := by intro _ _; rfl) : DE (cx X s E) X (.Subscript a b pos) (op2 ixD f k) := dE (pe_ix ix_seq ha hb hs) (sat_op v2_ix sE sE)
theorem gixV (i : Nat) {x : Str} {px : Pos} (hb : DE (cx X s E) X b k) (hv : PE X (.Name x px) (tVar i) := by exact pv _) (hs : PlainIx b := by intro _ _; rfl) : DE (cx X s E) X (.Subscript (.Name x px) b pos) (ixV i k) := dE (pe_ix ix_seq hv hb hs) (sat_ixV sE)
theorem gdget (hu : X.A.units + 65 < cLine) (ha : DE (cx X s E) X a f) (hb : DE (cx X s E) X b k) (hs : NoSl b := by intro _ _; rfl) : DE (cx X s E) X (.Subscript a b pos) (op2 dgetD f k) := dE (pe_dget (by omega) ha hb hs) (sat_dget sE sE)
theorem gdgetV (hu : X.A.units + 65 < cLine) (i : Nat) {x : Str} {px : Pos} (hb : DE (cx X s E) X b k) (hv : PE X (.Name x px) (tVar i) := by exact pv _) (hs : NoSl b := by intro _ _; rfl) : DE (cx X s E) X (.Subscript (.Name x px) b pos) (dgetV i k) := dE (pe_dget (by omega) hv hb hs) (sat_dgetV sE)
theorem gget2V (hu : X.A.units + 65 < cLine) (i : Nat) {x : Str} {px : Pos} (hb : DE (cx X s E) X b k) (hc : DE (cx X s E) X c l) (m : M2 X (.Name x px) "get" apos b c pos) (hv : PE X (.Name x px) (tVar i) := by exact pv _) : DE (cx X s E) X (.Call (.Attribute (.Name x px) "get" apos) [b, c] [] pos) (dget2V i k l) := dE (pe_dget2 (by omega) hv hb hc m) (sat_dget2V sE sE)
abbrev DO (C : Ctx) (X : Cx) (e : Option Expr) (f : M (Option Int)) : Prop := PO X e (fun σ H Q => ∃ N B g, Rep C N σ H B g ∧ FinO C N σ B (f g) Q)
theorem dO {C : Ctx} {e : Option Expr} {t : TO} {f : M (Option Int)} (h : PO X e t) (s : SatO C t f) : DO C X e f := ⟨fun pins s0 σ H Q I ⟨N, B, g, R, q⟩ => h.run pins s0 σ H Q I (s N σ H B g Q R q)⟩
theorem ono : DO (cx X s E) X none (pureM none) := dO po_none satO_no
theorem osome (h : DE (cx X s E) X e f) : DO (cx X s E) X (some e) (partM f) := dO (po_some h) (satO_part sE)
theorem gslice {lo hi : Option Expr} {fl fh : M (Option Int)} (ha : DE (cx X s E) X a f) (hl : DO (cx X s E) X lo fl) (hh : DO (cx X s E) X hi fh) : DE (cx X s E) X (.Subscript a (.Slice lo hi none p2) pos) (sliceM f fl fh) :=
  dE (pe_slice sl_seqX ha hl hh) (sat_slice sE (fun N σ H B g Q R q => ⟨N, B, g, R, q⟩) (fun N σ H B g Q R q => ⟨N, B, g, R, q⟩))
theorem grev {k0 : Nat} {q1 q2 q3 : Pos} (ha : DE (cx X s E) X a f) : DE (cx X s E) X (.Subscript a (.Slice none none (some (.UnaryOp .USub (.Constant (.int 1) k0 q1) q2)) q3) pos) (op1 revD f) := dE (pe_revL ha) (sat_rev sE)
/-! built-in functions -/
theorem gcb {x : Str} {id : String} {r : List V → Hp → VK → Prop} {h : List D → Option D} (hc : CallR X (.builtin id) r) (hr : VN (cx X s E) r h) (hv : bootBuiltins x = some (.builtin id)) (hm : X.mg x = none) (ha : DA (cx X s E) X (e :: es) fa) (hg : Gl X x := by rfl) (hn : x ≠ "__name__" := by decide) (hdb : (x == ("__debug__" : Str)) = false := by decide)
    (he : starEach (e :: es) X.env = (false, eval e X.env) :: starEach es X.env := by rfl) (hpl : (backTo pos (starEach es X.env)).any (·.1) = false := by rfl) : DE (cx X s E) X (.Call (.Name x p) (e :: es) [] pos) (opN h fa) := dE (pe_callB hc hg hm hv ha hn hdb he hpl) (sat_cb hr sA)
theorem gct {x : Str} {id : String} {r : List V → Hp → VK → Prop} {h : List D → Option D} (hc : CallR X (.type id) r) (hr : VN (cx X s E) r h) (hv : bootBuiltins x = some (.type id)) (hm : X.mg x = none) (ha : DA (cx X s E) X (e :: es) fa) (hg : Gl X x := by rfl) (hn : x ≠ "__name__" := by decide) (hdb : (x == ("__debug__" : Str)) = false := by decide)
    (he : starEach (e :: es) X.env = (false, eval e X.env) :: starEach es X.env := by rfl) (hpl : (backTo pos (starEach es X.env)).any (·.1) = false := by rfl) : DE (cx X s E) X (.Call (.Name x p) (e :: es) [] pos) (opN h fa) := dE (pe_callTy hc hg hm hv ha hn hdb he hpl) (sat_cb hr sA)
theorem flistOf (hm : X.mg "list" = none) (ha : DA (cx X s E) X [e] fa) (hg : Gl X "list" := by rfl) (he : starEach [e] X.env = [(false, eval e X.env)] := by rfl) (hpl : (backTo pos (starEach [] X.env)).any (·.1) = false := by rfl) : DF (cx X s E) X (.Call (.Name "list" p) [e] [] pos) (listOfM fa) := dF (pe_callTy call_list_of hg hm PyProof.Rows.boot_list ha (by decide) (by decide) he hpl) (satF_listOf sA)
theorem glenV (i : Nat) {x : Str} {px : Pos} (hm : X.mg "len" = none) (hv : PE X (.Name x px) (tVar i) := by exact pv _) (hg : Gl X "len" := by rfl) (he : starEach [.Name x px] X.env = [(false, eval (.Name x px) X.env)] := by rfl) (hpl : (backTo pos (starEach [] X.env)).any (·.1) = false := by rfl) :
    DE (cx X s E) X (.Call (.Name "len" p) [.Name x px] [] pos) (lenV i) := dE (pe_callB call_len hg hm PySem.boot_len (pa_cons hv pa_nil he) (by decide) (by decide) he hpl) sat_lenV
theorem glenSet (hc : X.calm = true) (hm : X.mg "len" = none) (hm2 : X.mg "set" = none) (ha : DE (cx X s E) X a f) (hg : Gl X "len" := by rfl) (hg2 : Gl X "set" := by rfl) (na : starEach [a] X.env = (false, eval a X.env) :: starEach [] X.env := by rfl) : DE (cx X s E) X (.Call (.Name "len" p) [.Call (.Name "set" p1) [a] [] p2] [] pos) (op1 lenSetD f) := dE (pe_lenSet2 hc hg hm hg2 hm2 ha na) (sat_lenSet sE)
end
end DL

set_option Elab.async false
set_option linter.all false
set_option maxRecDepth 100000
set_option maxHeartbeats 4000000
/-! DL14: the words for walks, comprehensions, statements, calls, raise, try. -/
namespace DL
open PySem PySem.Spec L2 StX
open PyProof.Rows hiding St

theorem passN {X : Cx} : Passes (L2N.CX X.prog X.w) X L2.E0 := fun _ _ _ _ _ _ _ h => by
  obtain ⟨_, _, _, _, _, _, _, _, _, _, _, _, z⟩ := h
  exact z.elim
theorem exq {X : Cx} : ∀ σ, PassesAt (L2N.CX X.prog X.w) X σ ((fun _ => L2.E0 : St → XK) σ) := fun σ pins H s e s' I c => passN pins σ H s e s' I c
section
variable {X : Cx} {s : Option StC} {E : St → XK}
variable {a b c e : Expr} {es : List Expr} {f k l : M D} {ft kt : M Bool} {fa : M (List D)} {pos p p1 p2 apos : Pos}
/-! ### what is walked over -/
theorem ilist {tg : Expr} (h : DE (cx X s E) X e f) : DI (cx X s E) X tg e (srcM f) := dI (pi_any h) (satI_any sE)
theorem irng1 {tg : Expr} (hm : X.mg "range" = none) (ha : DA (cx X s E) X [a] fa) (hg : Gl X "range" := by rfl) (hs : starEach [a] X.env = [(false, eval a X.env)] := by rfl) : DI (cx X s E) X tg (.Call (.Name "range" p) [a] [] pos) (srcA rng1 fa) := dI (pi_range1 hg hm ha hs) (satI_rng1 sA)
theorem irng2 {tg : Expr} (hm : X.mg "range" = none) (ha : DA (cx X s E) X [a, b] fa) (hg : Gl X "range" := by rfl) (hs : starEach [a, b] X.env = [(false, eval a X.env), (false, eval b X.env)] := by rfl) (hs2 : starEach [b] X.env = [(false, eval b X.env)] := by rfl) :
    DI (cx X s E) X tg (.Call (.Name "range" p) [a, b] [] pos) (srcA rng2 fa) := dI (pi_range2 hg hm ha hs hs2) (satI_rng2 sA)
theorem ienum {elts : List Expr} {kk : Nat} {tpos : Pos} (hm : X.mg "enumerate" = none) (ha : DA (cx X s E) X [e] fa) (hg : Gl X "enumerate" := by rfl) (hs : starEach [e] X.env = [(false, eval e X.env)] := by rfl) : DI (cx X s E) X (.Tuple elts kk tpos) (.Call (.Name "enumerate" p) [e] [] pos) (srcA enumD fa) := dI (pi_enumX hg hm ha hs) (satI_enum sA)
theorem izip {elts : List Expr} {kk : Nat} {tpos : Pos} (hm : X.mg "zip" = none) (ha : DA (cx X s E) X [a, b] fa) (hg : Gl X "zip" := by rfl) (hs : starEach [a, b] X.env = (false, eval a X.env) :: starEach [b] X.env := by rfl) (hpl : (backTo pos (starEach [b] X.env)).any (·.1) = false := by rfl) : DI (cx X s E) X (.Tuple elts kk tpos) (.Call (.Name "zip" p) [a, b] [] pos) (srcA zipD fa) := dI (pi_zipX hg hm ha (hs := hs) (hpl := hpl)) (satI_zip sA)
/-! ### targets -/
theorem hname (i : Nat) {x : Str} (hN : X.N.Nodup) (hi : X.N[i]? = some x := by rfl) (hx : Loc X.env.scope x := by first | exact Or.inl rfl | exact Or.inr rfl) (hf : X.fn x = true ∨ X.env.scope.names.lookup x = some .local := by first | exact .inl rfl | exact .inr rfl) : DG (cx X s E) X (.Name x pos) [i] (putM i) := dG (pg_name hN hi hx hf) satG_name
abbrev DGs (C : Ctx) (X : Cx) (es : List Expr) (ts : List Nat) (k : List D → M Unit) : Prop := PGs X es (fun vs σ H Q => ∃ N B g ds, Rep C N σ H B g ∧ Rps C.K B vs ds ∧ FinG C N ts σ B (k ds g) Q)
theorem dGs {C : Ctx} {es : List Expr} {ts : List Nat} {t : TGs} {k : List D → M Unit} (h : PGs X es t) (s : SatGs C ts t k) : DGs C X es ts k := ⟨fun pins s0 σ H xs us Q I r ⟨N, B, g, ds, R, rp, q⟩ => h.run pins s0 σ H xs us Q I r (s N xs σ H B g ds Q R rp q)⟩
theorem sGs {C : Ctx} {ts : List Nat} {k : List D → M Unit} : SatGs C ts (fun vs σ H Q => ∃ N B g ds, Rep C N σ H B g ∧ Rps C.K B vs ds ∧ FinG C N ts σ B (k ds g) Q) k := fun N vs σ H B g ds Q R r q => ⟨N, B, g, ds, R, r, q⟩
theorem hnil : DGs (cx X s E) X [] [] gNilM := dGs pgs_nil satGs_nil
theorem hcons {ts us : List Nat} {k1 : D → M Unit} {r1 : List D → M Unit} (h1 : DG (cx X s E) X e ts k1) (h2 : DGs (cx X s E) X es us r1) (hs : (assignEach (e :: es) X.env).map (·.2) = assign e X.env :: (assignEach es X.env).map (·.2) := by rfl) : DGs (cx X s E) X (e :: es) (ts ++ us) (gConsM k1 r1) := dGs (pgs_cons h1 h2 hs) (satGs_cons sG sGs)
theorem htup (n : Nat) {kk : Nat} {ts : List Nat} {r1 : List D → M Unit} (hc : X.calm = true) (h : DGs (cx X s E) X es ts r1) (hn : (assignEach es X.env).length = n := by rfl) (hst : (assignEach es X.env).findIdx? (·.1) = none := by rfl) : DG (cx X s E) X (.Tuple es kk pos) ts (tupG n r1) := dG (pg_tup hc h hn hst) (satG_tup sGs)
/-! ### comprehensions -/
theorem flc {elt tg iter : Expr} {ifs : List Expr} {scope : Scope} {ts : List Nat} {src : M (List D)} {kk : D → M Unit} {cc : M Bool} {ee : M D} (own : List (Str × Nat)) (hc : X.calm = true) (hN : X.N.Nodup) (ok : BlkOk X.N X.env.scope scope own) (hi : DI (cx X s E) X tg iter src)
    (hg : ∀ (s0 : Shared) (H : Hp) (C : Addr) (cl : List (Str × Addr)) (fp : List Addr), DG (cx X s fun _ => L2.E0) (X.blk s0 H scope (compEnvC scope cl C X.env) fp) tg ts kk) (ht : ∀ (s0 : Shared) (H : Hp) (C : Addr) (cl : List (Str × Addr)) (fp : List Addr), DTs (cx X s fun _ => L2.E0) (X.blk s0 H scope (compEnvC scope cl C X.env) fp) ifs cc)
    (he : ∀ (s0 : Shared) (H : Hp) (C : Addr) (cl : List (Str × Addr)) (fp : List Addr), DE (cx X s fun _ => L2.E0) (X.blk s0 H scope (compEnvC scope cl C X.env) fp) elt ee) (hv : ∀ j, j ∈ ts → j ∈ own.map (·.2) := by decide) (hs : ∀ x, foldedSetIterable iter X.env x = pure x := by intro _; rfl) :
    DF (cx X s E) X (.ListComp elt [⟨tg, iter, ifs, 0⟩] scope pos) (lcM src kk cc ee (own.map (·.2))) := dF (pe_lc hc hN hi ok hg ht he hs) (satF_lc (C := cx X s E) sI sG sT sE hv)
theorem flc2 {elt tg iter tg1 iter1 : Expr} {ifs ifs1 : List Expr} {scope : Scope} {ts ts1 : List Nat} {src src1 : M (List D)} {kk kk1 : D → M Unit} {cc cc1 : M Bool} {ee : M D} (own : List (Str × Nat)) (vs1 : List Nat) (hc : X.calm = true) (hN : X.N.Nodup) (ok : BlkOk X.N X.env.scope scope own) (hi : DI (cx X s E) X tg iter src)
    (hg : ∀ (s0 : Shared) (H : Hp) (C : Addr) (cl : List (Str × Addr)) (fp : List Addr), DG (cx X s fun _ => L2.E0) (X.blk s0 H scope (compEnvC scope cl C X.env) fp) tg ts kk) (ht : ∀ (s0 : Shared) (H : Hp) (C : Addr) (cl : List (Str × Addr)) (fp : List Addr), DTs (cx X s fun _ => L2.E0) (X.blk s0 H scope (compEnvC scope cl C X.env) fp) ifs cc)
    (hi1 : ∀ (s0 : Shared) (H : Hp) (C : Addr) (cl : List (Str × Addr)) (fp : List Addr), DI (cx X s fun _ => L2.E0) (X.blk s0 H scope (compEnvC scope cl C X.env) fp) tg1 iter1 src1)
    (hg1 : ∀ (s0 : Shared) (H : Hp) (C : Addr) (cl : List (Str × Addr)) (fp : List Addr), DG (cx X s fun _ => L2.E0) (X.blk s0 H scope (compEnvC scope cl C X.env) fp) tg1 ts1 kk1) (ht1 : ∀ (s0 : Shared) (H : Hp) (C : Addr) (cl : List (Str × Addr)) (fp : List Addr), DTs (cx X s fun _ => L2.E0) (X.blk s0 H scope (compEnvC scope cl C X.env) fp) ifs1 cc1)
    (he : ∀ (s0 : Shared) (H : Hp) (C : Addr) (cl : List (Str × Addr)) (fp : List Addr), DE (cx X s fun _ => L2.E0) (X.blk s0 H scope (compEnvC scope cl C X.env) fp) elt ee) (hv : ∀ j, j ∈ ts → j ∈ own.map (·.2) := by decide) (hv1 : ∀ j, j ∈ ts1 → j ∈ vs1 := by decide) (hvv : ∀ j, j ∈ vs1 → j ∈ own.map (·.2) := by decide)
    (hs : ∀ x, foldedSetIterable iter X.env x = pure x := by intro _; rfl) (hs1 : ∀ env x, foldedSetIterable iter1 env x = pure x := by intro _ _; rfl) :
    DF (cx X s E) X (.ListComp elt [⟨tg, iter, ifs, 0⟩, ⟨tg1, iter1, ifs1, 0⟩] scope pos) (lc2M src kk cc src1 kk1 cc1 ee (own.map (·.2)) vs1) := dF (pe_lc2 hc hN hi ok hvv hg ht hi1 hg1 ht1 he hs hs1) (satF_lc2 (C := cx X s E) sI sG sT sI sG sT sE hv hv1 hvv)
/-- name = [..]; the place is told as data, or as a list of its own -/
inductive LcSet (C : Ctx) (i : Nat) (f : M (List D)) : M Fl → Prop
  | dat : LcSet C i f (asgM (lstM f) (putM i))
  | own : LcSet C i f (asgF f i)
theorem LcSet.sat {C : Ctx} {i : Nat} {f : M (List D)} {m : M Fl} {t : TE} (h : LcSet C i f m) (ht : SatF C t f) : SatS C (tAsg t (gName i)) m := by
  cases h with
  | dat => exact satS_asg ht.sat satG_name
  | own => exact satS_asgF ht
theorem slc (i : Nat) {y : Str} {py spos : Pos} {elt tg iter : Expr} {ifs : List Expr} {scope : Scope} {ts : List Nat} {src : M (List D)} {kk : D → M Unit} {cc : M Bool} {ee : M D} {m : M Fl} (own : List (Str × Nat)) (hm : LcSet (cx X s E) i (lcM src kk cc ee (own.map (·.2))) m) (hc : X.calm = true) (hN : X.N.Nodup) (ok : BlkOk X.N X.env.scope scope own) (hsw : swapsWith (.ListComp elt [⟨tg, iter, ifs, 0⟩] scope pos) (some (.Name y py)) spos.line X.env = pure true) (hi : DI (cx X s E) X tg iter src)
    (hg : ∀ (s0 : Shared) (H : Hp) (C : Addr) (cl : List (Str × Addr)) (fp : List Addr), DG (cx X s fun _ => L2.E0) (X.blk s0 H scope (compEnvC scope cl C X.env) fp) tg ts kk) (ht : ∀ (s0 : Shared) (H : Hp) (C : Addr) (cl : List (Str × Addr)) (fp : List Addr), DTs (cx X s fun _ => L2.E0) (X.blk s0 H scope (compEnvC scope cl C X.env) fp) ifs cc)
    (he : ∀ (s0 : Shared) (H : Hp) (C : Addr) (cl : List (Str × Addr)) (fp : List Addr), DE (cx X s fun _ => L2.E0) (X.blk s0 H scope (compEnvC scope cl C X.env) fp) elt ee) (hv : ∀ j, j ∈ ts → j ∈ own.map (·.2) := by decide) (hy : X.N[i]? = some y := by rfl) (hyl : X.env.scope.names.lookup y = some .local := by rfl) (hs : ∀ x, foldedSetIterable iter X.env x = pure x := by intro _; rfl) :
    DS (cx X s E) X (.Assign [.Name y py] (.ListComp elt [⟨tg, iter, ifs, 0⟩] scope pos) spos) m := dS (ps_setLc hc hN hy hyl hsw hi ok hg ht he hs) (hm.sat (satF_lc (C := cx X s E) sI sG sT sE hv))
theorem slc2 (i : Nat) {y : Str} {py spos : Pos} {elt tg iter tg1 iter1 : Expr} {ifs ifs1 : List Expr} {scope : Scope} {ts ts1 : List Nat} {src src1 : M (List D)} {kk kk1 : D → M Unit} {cc cc1 : M Bool} {ee : M D} {m : M Fl} (own : List (Str × Nat)) (vs1 : List Nat) (hm : LcSet (cx X s E) i (lc2M src kk cc src1 kk1 cc1 ee (own.map (·.2)) vs1) m) (hc : X.calm = true) (hN : X.N.Nodup) (ok : BlkOk X.N X.env.scope scope own)
    (hsw : swapsWith (.ListComp elt [⟨tg, iter, ifs, 0⟩, ⟨tg1, iter1, ifs1, 0⟩] scope pos) (some (.Name y py)) spos.line X.env = pure true) (hi : DI (cx X s E) X tg iter src)
    (hg : ∀ (s0 : Shared) (H : Hp) (C : Addr) (cl : List (Str × Addr)) (fp : List Addr), DG (cx X s fun _ => L2.E0) (X.blk s0 H scope (compEnvC scope cl C X.env) fp) tg ts kk) (ht : ∀ (s0 : Shared) (H : Hp) (C : Addr) (cl : List (Str × Addr)) (fp : List Addr), DTs (cx X s fun _ => L2.E0) (X.blk s0 H scope (compEnvC scope cl C X.env) fp) ifs cc)
    (hi1 : ∀ (s0 : Shared) (H : Hp) (C : Addr) (cl : List (Str × Addr)) (fp : List Addr), DI (cx X s fun _ => L2.E0) (X.blk s0 H scope (compEnvC scope cl C X.env) fp) tg1 iter1 src1)
    (hg1 : ∀ (s0 : Shared) (H : Hp) (C : Addr) (cl : List (Str × Addr)) (fp : List Addr), DG (cx X s fun _ => L2.E0) (X.blk s0 H scope (compEnvC scope cl C X.env) fp) tg1 ts1 kk1) (ht1 : ∀ (s0 : Shared) (H : Hp) (C : Addr) (cl : List (Str × Addr)) (fp : List Addr), DTs (cx X s fun _ => L2.E0) (X.blk s0 H scope (compEnvC scope cl C X.env) fp) ifs1 cc1)
    (he : ∀ (s0 : Shared) (H : Hp) (C : Addr) (cl : List (Str × Addr)) (fp : List Addr), DE (cx X s fun _ => L2.E0) (X.blk s0 H scope (compEnvC scope cl C X.env) fp) elt ee) (hv : ∀ j, j ∈ ts → j ∈ own.map (·.2) := by decide) (hv1 : ∀ j, j ∈ ts1 → j ∈ vs1 := by decide) (hvv : ∀ j, j ∈ vs1 → j ∈ own.map (·.2) := by decide)
    (hy : X.N[i]? = some y := by rfl) (hyl : X.env.scope.names.lookup y = some .local := by rfl) (hs : ∀ x, foldedSetIterable iter X.env x = pure x := by intro _; rfl) (hs1 : ∀ env x, foldedSetIterable iter1 env x = pure x := by intro _ _; rfl) :
    DS (cx X s E) X (.Assign [.Name y py] (.ListComp elt [⟨tg, iter, ifs, 0⟩, ⟨tg1, iter1, ifs1, 0⟩] scope pos) spos) m := dS (ps_setLc2 hc hN hy hyl hsw hi ok hvv hg ht hi1 hg1 ht1 he hs hs1) (hm.sat (satF_lc2 (C := cx X s E) sI sG sT sI sG sT sE hv hv1 hvv))
/-! dicts with tuple keys -/
theorem ddnew : DDc (cx X s E) X (.Dict [] [] pos) (pureM []) := dD pe_dnewT satD_new
theorem ddc {kx vx tg iter : Expr} {ifs : List Expr} {scope : Scope} {ts : List Nat} {src : M (List D)} {kk : D → M Unit} {cc : M Bool} {ek ev : M D} (own : List (Str × Nat)) (hu : X.A.units + 65 < cLine) (hc : X.calm = true) (hN : X.N.Nodup) (ok : BlkOk X.N X.env.scope scope own) (hi : DI (cx X s E) X tg iter src)
    (hg : ∀ (s0 : Shared) (H : Hp) (C : Addr) (cl : List (Str × Addr)) (fp : List Addr), DG (cx X s fun _ => L2.E0) (X.blk s0 H scope (compEnvC scope cl C X.env) fp) tg ts kk) (ht : ∀ (s0 : Shared) (H : Hp) (C : Addr) (cl : List (Str × Addr)) (fp : List Addr), DTs (cx X s fun _ => L2.E0) (X.blk s0 H scope (compEnvC scope cl C X.env) fp) ifs cc)
    (hk : ∀ (s0 : Shared) (H : Hp) (C : Addr) (cl : List (Str × Addr)) (fp : List Addr), DE (cx X s fun _ => L2.E0) (X.blk s0 H scope (compEnvC scope cl C X.env) fp) kx ek)
    (he : ∀ (s0 : Shared) (H : Hp) (C : Addr) (cl : List (Str × Addr)) (fp : List Addr), DE (cx X s fun _ => L2.E0) (X.blk s0 H scope (compEnvC scope cl C X.env) fp) vx ev) (hv : ∀ j, j ∈ ts → j ∈ own.map (·.2) := by decide) (hs : ∀ x, foldedSetIterable iter X.env x = pure x := by intro _; rfl) :
    DDc (cx X s E) X (.DictComp kx vx [⟨tg, iter, ifs, 0⟩] scope pos) (dcM src kk cc ek ev (own.map (·.2))) := dD (pe_dcT (by omega) hc hN hi ok hg ht hk he hs) (satD_dc (C := cx X s E) sI sG sT sE sE hv)
theorem sdc (i : Nat) {y : Str} {py spos : Pos} {kx vx tg iter : Expr} {ifs : List Expr} {scope : Scope} {ts : List Nat} {src : M (List D)} {kk : D → M Unit} {cc : M Bool} {ek ev : M D} (own : List (Str × Nat)) (hu : X.A.units + 65 < cLine) (hc : X.calm = true) (hN : X.N.Nodup) (ok : BlkOk X.N X.env.scope scope own) (hsw : swapsWith (.DictComp kx vx [⟨tg, iter, ifs, 0⟩] scope pos) (some (.Name y py)) spos.line X.env = pure true) (hi : DI (cx X s E) X tg iter src)
    (hg : ∀ (s0 : Shared) (H : Hp) (C : Addr) (cl : List (Str × Addr)) (fp : List Addr), DG (cx X s fun _ => L2.E0) (X.blk s0 H scope (compEnvC scope cl C X.env) fp) tg ts kk) (ht : ∀ (s0 : Shared) (H : Hp) (C : Addr) (cl : List (Str × Addr)) (fp : List Addr), DTs (cx X s fun _ => L2.E0) (X.blk s0 H scope (compEnvC scope cl C X.env) fp) ifs cc)
    (hk : ∀ (s0 : Shared) (H : Hp) (C : Addr) (cl : List (Str × Addr)) (fp : List Addr), DE (cx X s fun _ => L2.E0) (X.blk s0 H scope (compEnvC scope cl C X.env) fp) kx ek)
    (he : ∀ (s0 : Shared) (H : Hp) (C : Addr) (cl : List (Str × Addr)) (fp : List Addr), DE (cx X s fun _ => L2.E0) (X.blk s0 H scope (compEnvC scope cl C X.env) fp) vx ev) (hv : ∀ j, j ∈ ts → j ∈ own.map (·.2) := by decide) (hy : X.N[i]? = some y := by rfl) (hyl : X.env.scope.names.lookup y = some .local := by rfl) (hs : ∀ x, foldedSetIterable iter X.env x = pure x := by intro _; rfl) :
    DS (cx X s E) X (.Assign [.Name y py] (.DictComp kx vx [⟨tg, iter, ifs, 0⟩] scope pos) spos) (asgD (dcM src kk cc ek ev (own.map (·.2))) i) := dS (ps_setDcT (by omega) hc hN hy hyl hsw hi ok hg ht hk he hs) (satS_asgD (satD_dc (C := cx X s E) sI sG sT sE sE hv))
theorem ddisp1 {kx vx : Expr} {fk fv : M D} (hu : X.A.units + 65 < cLine) (hk : DE (cx X s fun _ => L2.E0) X kx fk) (hv : DE (cx X s fun _ => L2.E0) X vx fv) : DDc (cx X s E) X (.Dict [some kx] [vx] pos) (disp1M fk fv) := dD (pe_disp1 (by omega) hk hv) (satD_disp1 (C := cx X s E) sE sE)
/-! ### statements -/
theorem ssnil : DSs (cx X s E) X [] nextM := dSs pss_nil satS_next
theorem sscons {st : Stmt} {rest : List Stmt} {m n : M Fl} (h : DS (cx X s E) X st m) (h2 : DSs (cx X s E) X rest n) : DSs (cx X s E) X (st :: rest) (seqM m n) := dSs (pss_cons h h2) (satS_seq sS sS)
theorem ssone {st : Stmt} {m : M Fl} (h : DS (cx X s E) X st m) : DSs (cx X s E) X [st] m := pss_one h
theorem sset (i : Nat) {x : Str} (hN : X.N.Nodup) (he : DE (cx X s E) X e f) (hi : X.N[i]? = some x := by rfl) (hx : Loc X.env.scope x := by first | exact Or.inl rfl | exact Or.inr rfl) (hs : swapsWith e (some (.Name x p1)) pos.line X.env = pure false := by rfl)
    (hf : X.fn x = true ∨ X.env.scope.names.lookup x = some .local := by first | exact .inl rfl | exact .inr rfl) : DS (cx X s E) X (.Assign [.Name x p1] e pos) (asgM f (putM i)) := dS (ps_set hN hi hx he hs hf) (satS_asg sE satG_name)
theorem ssetF (i : Nat) {x : Str} {fl : M (List D)} (hN : X.N.Nodup) (he : DF (cx X s E) X e fl) (hi : X.N[i]? = some x := by rfl) (hx : Loc X.env.scope x := by first | exact Or.inl rfl | exact Or.inr rfl) (hs : swapsWith e (some (.Name x p1)) pos.line X.env = pure false := by rfl)
    (hf : X.fn x = true ∨ X.env.scope.names.lookup x = some .local := by first | exact .inl rfl | exact .inr rfl) : DS (cx X s E) X (.Assign [.Name x p1] e pos) (asgF fl i) := dS (ps_set hN hi hx he hs hf) (satS_asgF sF)
theorem ssetD (i : Nat) {x : Str} {fl : M (List (List Key × D))} (hN : X.N.Nodup) (he : DDc (cx X s E) X e fl) (hi : X.N[i]? = some x := by rfl) (hx : Loc X.env.scope x := by first | exact Or.inl rfl | exact Or.inr rfl) (hs : swapsWith e (some (.Name x p1)) pos.line X.env = pure false := by rfl)
    (hf : X.fn x = true ∨ X.env.scope.names.lookup x = some .local := by first | exact .inl rfl | exact .inr rfl) : DS (cx X s E) X (.Assign [.Name x p1] e pos) (asgD fl i) := dS (ps_set hN hi hx he hs hf) (satS_asgD sD)
theorem sasg {tg : Expr} {ts : List Nat} {kk : D → M Unit} (he : DE (cx X s E) X e f) (hg : DG (cx X s E) X tg ts kk) (hs : swapsWithSole [tg] e pos.line X.env = pure false := by rfl) (hw : swappedStores [tg] e X.env = pure none := by rfl) (h1 : (assignEach [tg] X.env).map (·.2) = [assign tg X.env] := by rfl) : DS (cx X s E) X (.Assign [tg] e pos) (asgM f kk) := dS (ps_asg he hg hs hw h1) (satS_asg sE sG)
theorem sexpr (he : DE (cx X s E) X e f) (hs : swapsWith e none pos.line X.env = pure false := by rfl) : DS (cx X s E) X (.Expr e pos) (dropM f) := dS (ps_expr he hs) (satS_drop sE)
theorem sret (he : DE (cx X s E) X e f) : DS (cx X s E) X (.Return (some e) pos) (retM f) := dS (ps_ret he) (satS_ret sE)
theorem sif {ta tb : List Stmt} {m n : M Fl} (hc : DT (cx X s E) X c ft) (h1 : DSs (cx X s E) X ta m) (h2 : DSs (cx X s E) X tb n) : DS (cx X s E) X (.If c ta tb pos) (ifM ft m n) := dS (ps_if hc h1 h2) (satS_if sT sS sS)
theorem sbrk : DS (cx X s E) X (.Break pos) (pureM .brk) := dS ps_break satS_brk
theorem scnt : DS (cx X s E) X (.Continue pos) (pureM .cont) := dS ps_continue satS_cont
theorem sfor {tg iter : Expr} {body : List Stmt} {ts : List Nat} {src : M (List D)} {kk : D → M Unit} {m : M Fl} (hp : PassesOwn (model X.prog X.w) X.A X.env X.xe) (hc : X.calm = true) (hi : DI (cx X s E) X tg iter src) (hg : DG (cx X s E) X tg ts kk) (hb : DSs (cx X s E) X body m) (hs : ∀ x, foldedSetIterable iter X.env x = pure x := by intro _; rfl) :
    DS (cx X s E) X (.For tg iter body [] pos) (forS src kk m) := dS (ps_for hp hc hi hg hb hs) (satS_for sI sG sS)
theorem swhile (n : Nat) {body : List Stmt} {m : M Fl} (hp : PassesOwn (model X.prog X.w) X.A X.env X.xe) (hc : DT (cx X s E) X c ft) (hb : DSs (cx X s E) X body m) : DS (cx X s E) X (.While c body [] pos) (whileM n ft m) := dS (ps_while hp hc hb) (satS_while n sT sS)
theorem saug (i : Nat) {x : Str} {op : Operator} {ti : TIp} {h : D → D → Option D} (hN : X.N.Nodup) (ho : PIp X op ti) (hr : V2 (cx X s E) ti h) (he : DE (cx X s E) X e f) (hi : X.N[i]? = some x := by rfl) (hx : Loc X.env.scope x := by first | exact Or.inl rfl | exact Or.inr rfl) (hf : X.fn x = true ∨ X.env.scope.names.lookup x = some .local := by first | exact .inl rfl | exact .inr rfl) :
    DS (cx X s E) X (.AugAssign (.Name x p1) op e pos) (augM i h f) := dS (ps_aug hN hi hx he ho hf) (satS_aug hr sE)
theorem v2_ipadd : V2 (cx X s E) (ipI fun i j => i + j) (i2D (fun _ _ => true) fun i j => .int (i + j)) := by
  intro H B x y dx dy d Q L rx ry e q
  cases rx with
  | int i =>
    cases ry with
    | int j => cases e; exact ⟨i, j, rfl, rfl, q _ H B .refl (.int _)⟩
    | _ => cases e
  | _ => cases e
theorem spar (i j : Nat) {x y : Str} {px py pt : Pos} {kt k2 pt2} (hc : X.calm = true) (hN : X.N.Nodup) (ha : DA (cx X s E) X [a, b] fa) (hw : swappedStores [.Tuple [.Name x px, .Name y py] kt pt] (.Tuple [a, b] k2 pt2) X.env = pure (some [x, y]) := by rfl) (hi : X.N[i]? = some x := by rfl) (hj : X.N[j]? = some y := by rfl) (hij : i ≠ j := by decide)
    (hx : X.env.scope.names.lookup x = some .local := by rfl) (hy : X.env.scope.names.lookup y = some .local := by rfl) (hs : swapsWithSole [.Tuple [.Name x px, .Name y py] kt pt] (.Tuple [a, b] k2 pt2) pos.line X.env = pure false := by rfl) :
    DS (cx X s E) X (.Assign [.Tuple [.Name x px, .Name y py] kt pt] (.Tuple [a, b] k2 pt2) pos) (parM i j fa) := dS (ps_par hc hN hi hj hij hx hy ha hw hs) (satS_par sA)
theorem sdput (hu : X.A.units + 65 < cLine) (i : Nat) {x : Str} {px : Pos} {v : Expr} (hk : DE (cx X s E) X b k) (hv : DE (cx X s E) X v f) (ho : PE X (.Name x px) (tVar i) := by exact pv _) (hs : swapsWith v (some (.Subscript (.Name x px) b p1)) pos.line X.env = pure false := by rfl) :
    DS (cx X s E) X (.Assign [.Subscript (.Name x px) b p1] v pos) (dputM i k f) := dS (ps_dput (by omega) ho hk hv hs) (satS_dput sE sE)
theorem sapp (i : Nat) {x : Str} {px : Pos} (he : DE (cx X s E) X e f) (ho : PE X (.Name x px) (tVar i) := by exact pv _) (hb : attributeBase (.Name x px) "append" X.env (eval (.Name x px) X.env) = eval (.Name x px) X.env := by rfl)
    (hfew : ((backTo p1 (starEach [e] X.env)).all (fun x => !x.1) && (backToKw p1 (keywordEach [] X.env)).all (fun x => x.1.isSome) && decide ([e].length + ([] : List Keyword).length + (if ([] : List Keyword).isEmpty then 0 else 1) < 30)) = true := by rfl)
    (hl : (apos.endLine == p1.line) = true := by rfl) (hs : starEach [e] X.env = [(false, eval e X.env)] := by rfl) : DS (cx X s E) X (.Expr (.Call (.Attribute (.Name x px) "append" apos) [e] [] p1) pos) (appM i f) := dS (ps_expr (pe_bm PySem.F.plainAttrs_list PySem.F.slot_list_append PySem.F.type_list_append mt_append ho (pa_cons he pa_nil hs) hb hfew hl hs rfl)) (satS_app sE)
theorem sext (i : Nat) {x : Str} {px : Pos} (he : DE (cx X s E) X e f) (ho : PE X (.Name x px) (tVar i) := by exact pv _) (hb : attributeBase (.Name x px) "extend" X.env (eval (.Name x px) X.env) = eval (.Name x px) X.env := by rfl)
    (hfew : ((backTo p1 (starEach [e] X.env)).all (fun x => !x.1) && (backToKw p1 (keywordEach [] X.env)).all (fun x => x.1.isSome) && decide ([e].length + ([] : List Keyword).length + (if ([] : List Keyword).isEmpty then 0 else 1) < 30)) = true := by rfl)
    (hl : (apos.endLine == p1.line) = true := by rfl) (hs : starEach [e] X.env = [(false, eval e X.env)] := by rfl) : DS (cx X s E) X (.Expr (.Call (.Attribute (.Name x px) "extend" apos) [e] [] p1) pos) (extM i f) := dS (ps_expr (pe_bm PySem.F.plainAttrs_list PySem.F.slot_list_extend PySem.F.type_list_extend mt_extend ho (pa_cons he pa_nil hs) hb hfew hl hs rfl)) (satS_ext sE)
theorem gpop (i : Nat) {x : Str} {px : Pos} (he : DE (cx X s E) X e f) (ho : PE X (.Name x px) (tVar i) := by exact pv _) (hb : attributeBase (.Name x px) "pop" X.env (eval (.Name x px) X.env) = eval (.Name x px) X.env := by rfl)
    (hfew : ((backTo p1 (starEach [e] X.env)).all (fun x => !x.1) && (backToKw p1 (keywordEach [] X.env)).all (fun x => x.1.isSome) && decide ([e].length + ([] : List Keyword).length + (if ([] : List Keyword).isEmpty then 0 else 1) < 30)) = true := by rfl)
    (hl : (apos.endLine == p1.line) = true := by rfl) (hs : starEach [e] X.env = [(false, eval e X.env)] := by rfl) : DE (cx X s E) X (.Call (.Attribute (.Name x px) "pop" apos) [e] [] p1) (popM i f) := dE (pe_bm PySem.F.plainAttrs_list PySem.F.slot_list_pop PySem.F.type_list_pop mt_popAt ho (pa_cons he pa_nil hs) hb hfew hl hs rfl) (sat_pop sE)
theorem gcnt {o : Expr} (ho : DE (cx X s E) X o f) (he : DE (cx X s E) X e k) (hb : attributeBase o "count" X.env (eval o X.env) = eval o X.env := by rfl)
    (hfew : ((backTo p1 (starEach [e] X.env)).all (fun x => !x.1) && (backToKw p1 (keywordEach [] X.env)).all (fun x => x.1.isSome) && decide ([e].length + ([] : List Keyword).length + (if ([] : List Keyword).isEmpty then 0 else 1) < 30)) = true := by rfl)
    (hl : (apos.endLine == p1.line) = true := by rfl) (hs : starEach [e] X.env = [(false, eval e X.env)] := by rfl) : DE (cx X s E) X (.Call (.Attribute o "count" apos) [e] [] p1) (cntM f k) := dE (pe_bm PySem.F.plainAttrs_list PySem.F.slot_list_count PySem.F.type_list_count mt_lcount ho (pa_cons he pa_nil hs) hb hfew hl hs rfl) (sat_cnt sE sE)
end
end DL

set_option Elab.async false
set_option linter.all false
set_option maxRecDepth 100000
set_option maxHeartbeats 4000000
/-! DL15: calls of defs by name, of a def chosen from a written list; raise; try with the law's own telling of the error. -/
namespace DL
open PySem PySem.Spec L2 StX
open PyProof.Rows hiding St

/-- a def of the module that tells h -/
structure CalD (P : Program) (w : World) (K : PySem.W.Frag) (mg : Str → Option Value) (base : Heap) (x : Str) (k : Nat) (h : FnM) : Prop where
  ex : ∃ (f : Addr) (fd : FuncData) (ps : List Str), FnG P w K mg base k f fd ps (spD K mg h) ∧ mg x = some (.ref f) ∧ PySem.W.keepIn K (.ref f) = true ∧ Binds K fd ps []
theorem CalD.mono {P : Program} {w : World} {K : PySem.W.Frag} {mg : Str → Option Value} {base : Heap} {x : Str} {j k : Nat} {h : FnM} (c : CalD P w K mg base x j h) (hk : j ≤ k) : CalD P w K mg base x k h := by
  obtain ⟨f, fd, ps, F, m, kp, b⟩ := c.ex
  exact ⟨f, fd, ps, F.mono hk, m, kp, b⟩
def toX (C : Ctx) (f : M (List Slot)) : TA := fun σ H Q => ∃ N B g, Rep C N σ H B g ∧ FinX C N σ B (f g) Q
abbrev DX (C : Ctx) (X : Cx) (e : List Expr) (f : M (List Slot)) : Prop := PA X e (toX C f)
theorem sX {C : Ctx} {f : M (List Slot)} : SatX C (toX C f) f := fun N σ H B g Q R q => ⟨N, B, g, R, q⟩
theorem dX {C : Ctx} {X : Cx} {e : List Expr} {t : TA} {f : M (List Slot)} (h : PA X e t) (s : SatX C t f) : DX C X e f := ⟨fun pos pins s0 σ H Q I ⟨N, B, g, R, q⟩ => h.run pos pins s0 σ H Q I (s N σ H B g Q R q)⟩
section
variable {X : Cx} {s : Option StC} {E : St → XK}
variable {a b c e : Expr} {es : List Expr} {f k l : M D} {fa : M (List D)} {fx : M (List Slot)} {pos p p1 p2 p3 apos : Pos}
theorem xdat (h : DA (cx X s E) X es fa) : DX (cx X s E) X es (datsM fa) := dX h (satX_dats sA)
theorem xsta (i : Nat) {x : Str} {px : Pos} (h : DA (cx X s E) X es fa) (hv : PE X (.Name x px) (tVar i) := by exact pv _) (hs : starEach (.Name x px :: es) X.env = (false, eval (.Name x px) X.env) :: starEach es X.env := by rfl) : DX (cx X s E) X (.Name x px :: es) (staM i fa) := dX (pa_cons hv h hs) (satX_sta sA)
theorem gcall {x : Str} {n : Nat} {h : FnM} (cd : CalD X.prog X.w X.K X.mg X.base x n h) (hr : Room n X.A) (hgu : X.A.guards = some []) (hx : ∀ σ, PassesAt (L2N.CX X.prog X.w) X σ (E σ)) (ha : DX (cx X s E) X (e :: es) fx) (hg : Gl X x := by rfl)
    (hdb : (x == ("__debug__" : Str)) = false := by decide) (he : starEach (e :: es) X.env = (false, eval e X.env) :: starEach es X.env := by rfl) (hpl : (backTo pos (starEach es X.env)).any (·.1) = false := by rfl) :
    DE (cx X s E) X (.Call (.Name x p) (e :: es) [] pos) (callM h (nsOf s) fx) := by
  obtain ⟨fa, fd, ps, F, m, kp, b⟩ := cd.ex
  exact dE (pe_callG F hr hgu hg m kp b hx ha hdb he hpl) (sat_call (C := cx X s E) sX)

/-! ### a def chosen from a written list -/
def tRefs (l : List (Addr × FnM)) : TA := fun _ H Q => Q (l.map fun x => V.ref x.1) H
structure PickOk (X : Cx) (n : Nat) (fs : List Expr) (hs : List FnM) : Prop where
  ex : ∃ l : List (Addr × FnM), l.map (·.2) = hs ∧ l.length = fs.length ∧ PA X fs (tRefs l) ∧ ∀ x ∈ l, ∃ (fd : FuncData) (ps : List Str), FnG X.prog X.w X.K X.mg X.base n x.1 fd ps (spD X.K X.mg x.2) ∧ PySem.W.keepIn X.K (.ref x.1) = true ∧ Binds X.K fd ps []
theorem pknil {n : Nat} : PickOk X n [] [] := ⟨[], rfl, rfl, pa_nil, fun _ h => nomatch h⟩
theorem pkcons {x : Str} {n : Nat} {h : FnM} {hs : List FnM} (cd : CalD X.prog X.w X.K X.mg X.base x n h) (r : PickOk X n es hs) (hg : Gl X x := by rfl) (hd : (x == ("__debug__" : Str)) = false := by decide) (he : starEach (.Name x p :: es) X.env = (false, eval (.Name x p) X.env) :: starEach es X.env := by rfl) : PickOk X n (.Name x p :: es) (h :: hs) := by
  obtain ⟨fa, fd, ps, F, m, kp, b⟩ := cd.ex
  obtain ⟨l, e, el, pa, al⟩ := r.ex
  refine ⟨(fa, h) :: l, by rw [List.map_cons, e], by rw [List.length_cons, List.length_cons, el], pa_cons (pe_glob (v := .ref fa) hg m rfl hd) pa he, fun y hy => ?_⟩
  rcases List.mem_cons.mp hy with rfl | hy
  · exact ⟨fd, ps, F, kp, b⟩
  · exact al y hy
def pickM (hs : List FnM) (ns : List Int) (fi : M D) (fx : M (List Slot)) : M D := bindM fi fun i => bindM (liftO ((oneInt i).bind fun j => L2.atI hs j)) fun h => callM h ns fx
theorem atI_mapF {α β : Type} (g : α → β) (l : List α) (i : Int) {y : β} (h : L2.atI (l.map g) i = some y) : ∃ x, L2.atI l i = some x ∧ g x = y := by
  unfold L2.atI at h ⊢
  rw [List.length_map] at h
  cases e : ixN l.length i with
  | none => rw [e] at h; cases h
  | some j =>
    rw [e] at h
    have h : (l.map g)[j]? = some y := h
    rw [List.getElem?_map] at h
    cases e2 : l[j]? with
    | none => rw [e2] at h; cases h
    | some x => rw [e2] at h; cases h; exact ⟨x, e2, rfl⟩
theorem mem_of_atI {α : Type} {l : List α} {i : Int} {x : α} (h : L2.atI l i = some x) : x ∈ l := by
  unfold L2.atI at h
  cases e : ixN l.length i with
  | none => rw [e] at h; cases h
  | some j => rw [e] at h; exact List.mem_of_getElem? h
theorem gpick {fs : List Expr} {ix : Expr} {n : Nat} {hs : List FnM} {fi : M D} (pk : PickOk X n fs hs) (hr : Room n X.A) (hgu : X.A.guards = some []) (hx : ∀ σ, PassesAt (L2N.CX X.prog X.w) X σ (E σ)) (hi : DE (cx X s E) X ix fi) (ha : DX (cx X s E) X (e :: es) fx) (hl : fs.length ≤ 1000 := by decide) (hpi : PlainIx ix := by intro _ _; rfl)
    (he : starEach (e :: es) X.env = (false, eval e X.env) :: starEach es X.env := by rfl) (hpl : (backTo pos (starEach es X.env)).any (·.1) = false := by rfl) :
    DE (cx X s E) X (.Call (.Subscript (.List fs p1) ix p2) (e :: es) [] pos) (pickM hs (nsOf s) fi fx) := by
  obtain ⟨l, rfl, el, pa, al⟩ := pk.ex
  have hfe : PE X (.Subscript (.List fs p1) ix p2) (tOp (rIx X.K) (tLst (tRefs l)) (toE (cx X s E) fi)) := pe_ix ix_seq (pe_lst pa) hi hpi
  refine ⟨fun pins s0 σ H Q I hq => ?_⟩
  obtain ⟨N, B, g, R, q⟩ := hq
  show wpAny _ _ (do callWith pos (← eval (.Subscript (.List fs p1) ix p2) X.env) [] (backTo pos (starEach (e :: es) X.env)) (backToKw pos (keywordEach [] X.env))) _ _ _
  -- the list of the defs has at most as many as are written
  refine wpAny_bind (thn (hfe.run pins s0 σ H (fun v H1 => ∃ x, x ∈ l ∧ v = .ref x.1 ∧ ∃ B1 g1, Rep (cx X s E) N σ H1 B1 g1 ∧ Fin (cx X s E) N σ B (callM x.2 (nsOf s) fx g1) Q ∧ Le B B1) I ?_) fun v s1 hv => ?_)
  · have key : ∀ pl, H pl = none → toE (cx X s E) fi σ (upd H pl (.lst (l.map fun x => V.ref x.1))) fun y H2 => rIx X.K (.ref pl) y H2 (fun v H1 => ∃ x, x ∈ l ∧ v = .ref x.1 ∧ ∃ B1 g1, Rep (cx X s E) N σ H1 B1 g1 ∧ Fin (cx X s E) N σ B (callM x.2 (nsOf s) fx g1) Q ∧ Le B B1) := fun pl hpl' => by
      have h0 : N.H0 pl = none := R.fresh hpl'
      have R1 : Rep (cx X s E) ⟨upd N.H0 pl (.lst (l.map fun x => V.ref x.1)), N.B0⟩ σ (upd H pl (.lst (l.map fun x => V.ref x.1))) B g := (R.newl hpl').anchor upd_same (R.sub_none hpl') h0 (R.free_own hpl')
      have hb0 : N.B0 pl = none := R.b0 (R.sub_none hpl')
      have hst : ∀ c, (cx X s E).st = some c → c.a ≠ pl := fun c hc => R.stne hc h0
      refine (sE (C := cx X s E) (f := fi)).run (P := fun x => Fin (cx X s E) N σ B x Q) R1 q (fun n' ct z cl H' B' R' hm => ?_) (fun z => z) fun d g1 v1 H2 B2 _ R2 L2' rp q1 => ?_
      · exact z cl H' B' (R'.unanchor h0 hb0 hst).1 hm
      · have q1 : Fin (cx X s E) N σ B (bindM (liftO ((oneInt d).bind fun j => L2.atI (l.map (·.2)) j)) (fun h => callM h (nsOf s) fx) g1) Q := q1
        cases eo : (oneInt d).bind fun j => L2.atI (l.map (·.2)) j with
        | none => rw [eo] at q1; exact q1.elim
        | some h =>
          rw [eo] at q1
          cases e1 : oneInt d with
          | none => rw [e1] at eo; cases eo
          | some j =>
            rw [e1] at eo
            obtain rfl := oneInt_some e1
            cases rp
            obtain ⟨x, ex, rfl⟩ := atI_mapF (fun z : Addr × FnM => z.2) l j eo
            obtain ⟨U1, U2⟩ := R2.unanchor h0 hb0 hst
            have hat : L2.atI (l.map fun x => V.ref x.1) j = some (V.ref x.1) := by
              unfold L2.atI at ex ⊢
              rw [List.length_map]
              cases e2 : ixN l.length j with
              | none => rw [e2] at ex; cases ex
              | some m =>
                rw [e2] at ex
                show (l.map fun x => V.ref x.1)[m]? = _
                rw [List.getElem?_map]
                have ex : l[m]? = some x := ex
                rw [ex]; rfl
            have hp2 : H2 pl = some (.lst (l.map fun x => V.ref x.1)) := R2.keep pl _ upd_same fun c hc z => (hst c hc z.symm)
            exact .inl ⟨pl, _, j, _, rfl, rfl, SqL.of hp2, hat, x, mem_of_atI ex, rfl, B2, g1, U1, q1, L2'⟩
    refine ⟨?_, key⟩
    rw [List.length_map, el]
    exact Nat.le_trans hl (by decide)
  · obtain ⟨y, H1, I1, ry, x, hxl, rfl, B1, g1, R1, q1, L1⟩ := hv
    cases ry
    obtain ⟨fd, ps, F, kp, hb⟩ := al x hxl
    refine PySem.W.callWith_K (h₀ := X.base) I1.ok.mod.kin kp (thn (ha.run pos pins s1 σ H1 (fun vs H2 => spD X.K X.mg x.2 vs H2 Q (E σ)) I1 ?_) fun us s2 ⟨vs, H2, I2, r, q2⟩ => ⟨I2.kIn, ?_⟩) he hpl
    · have sc := sat_call (h := x.2) (sX (C := cx X s E) (f := fx)) N σ H1 B1 g1 Q R1 (q1.le L1)
      unfold tCallSD at sc
      simpa only [List.append_nil] using sc
    · have hlen : us.length = ps.length := r.length ▸ F.len _ _ _ _ q2
      have b := hb s2 us I2.kIn (by rw [List.append_nil]; exact hlen)
      rw [List.append_nil] at b
      refine wpAny_call (codeAny_mono (F.run X.A X.stack s2 H2 ⟨us, []⟩ us vs Q (E σ) hr hgu I2.env0 b r q2) fun r s' hq => ?_)
      match r with
      | .error e => exact hx σ pins H2 s2 e s' I2 hq
      | .ok (.ret u) => exact I2.after hq
      | .ok .next => exact hq.elim
      | .ok .brk => exact hq.elim
      | .ok .cont => exact hq.elim
end
end DL

set_option Elab.async false
set_option linter.all false
set_option maxRecDepth 100000
set_option maxHeartbeats 4000000
/-! DL16: raise; the law's telling of an error; try. -/
namespace DL
open PySem PySem.Spec L2 StX
open PyProof.Rows hiding St

/-- an own error without __init__ -/
structure ExcD (K : PySem.W.Frag) (mg : Str → Option Value) (x : Str) : Prop where
  ex : ∃ C : Addr, mg x = some (.ref C) ∧ PySem.W.excIn K C [.type "Exception", .type "BaseException", .type "object"] "Exception.__new__" = true ∧ PySem.W.keepIn K (.ref C) = true ∧ PySem.W.subIn K (.ref C) (.type "BaseException") = some true ∧ PySem.W.typeIn K (.ref C) = some (.type "type")
abbrev wx (E : St → XK) : WX := fun cls d σ H => E σ cls d H
section
variable {X : Cx} {s : Option StC} {E : St → XK} {pos p p1 p2 p3 apos : Pos}
theorem sraise {x m : Str} {j} (hc : X.calm = true) (tk : L2N.Takes X (wx E)) (ed : ExcD X.K X.mg x) (hg : Gl X x := by rfl) (hdb : (x == ("__debug__" : Str)) = false := by decide) :
    DS (cx X s E) X (.Raise (some (.Call (.Name x p) [.Constant (.str m) j p2] [] p3)) none pos) (raiseM x) := by
  obtain ⟨C, g, q, k, b, t⟩ := ed.ex
  exact dS (L2N.ps_raise hc tk (L2N.pmk_own PySem.F.excBase_Exception q g k (raises_own b t) hg hdb)) (satS_raise (C := cx X s E) g)
end

/-! ### the law's telling of an error -/
/-- _law_error of an error of the class cl tells z -/
structure FnE (P : Program) (w : World) (K : PySem.W.Frag) (mg : Str → Option Value) (base : Heap) (k : Nat) (f : Addr) (fd : FuncData) (cl : Addr) (z : Str) : Prop where
  run : ∀ (A : Around) (outer : List Env) (s : Shared) (H : Hp) (us : List Value) (Q : VK) (a : Addr) (oe : Obj) (vs : Array Value), L2H.RoomH k A → A.handled = some (.ref a) → L2N.Zn (.ref cl) none oe → oe.data = .fields vs → L2H.PinOk outer H s (a, oe) → Env0 P w K mg base A outer s H → BindsTo s fd ⟨us, []⟩ (([("e" : Str)] : List Str).zip us) → Vals [.ref a] us →
    (∀ H', Le H H' → Q (.str z) H') → codeAny (model P w) A (.call (.ref f) ⟨us, []⟩) (CR (L2N.CX P w) outer P w H s Q L2.E0) s
/-- what the try of a law's told asks: the caught class, and of each error that may come how it is told -/
structure ErrD (P : Program) (w : World) (K : PySem.W.Frag) (mg : Str → Option Value) (base : Heap) (k : Nat) (nm : Str → Option Str) : Prop where
  ex : ∃ (f : Addr) (fd : FuncData) (eN : Addr), mg "NetError" = some (.ref eN) ∧ mg "_law_error" = some (.ref f) ∧ PySem.W.keepIn K (.ref f) = true ∧ Binds K fd ["e"] [] ∧
    ∀ n z cl, nm n = some z → mg n = some (.ref cl) → PySem.W.exmOne K (.ref cl) (.ref eN) = some true ∧ FnE P w K mg base k f fd cl z
def tryM (nm : Str → Option Str) (f : M Fl) : M Fl := fun g => match f g with
  | .exc n ct => match nm n with
    | some z => .ok (.ret (.str z)) ⟨g.sl.map fun _ => .no, ct⟩
    | none => .bad
  | r => r
theorem Rep.reB {C : Ctx} {N : An} {σ : St} {H B : Hp} {g : Sg} (R : Rep C N σ H B g) : Rep C ⟨N.H0, B⟩ σ H B g := ⟨R.len, R.slots, R.sep, R.sub, fun _ _ q => q, fun _ _ q => .inl q, R.ownNew, R.keep, R.st⟩
theorem Rep.unreB {C : Ctx} {N : An} {σ σ' : St} {H B H' B' : Hp} {g g' : Sg} (R : Rep C N σ H B g) (R' : Rep C ⟨N.H0, B⟩ σ' H' B' g') : Rep C N σ' H' B' g' := ⟨R'.len, R'.slots, R'.sep, R'.sub, fun a o q => R'.up a o (R.up a o q), fun a o q => (R'.new a o q).elim (fun z => R.new a o z) .inr, R'.ownNew, R'.keep, R'.st⟩
theorem Rep.bare2 {C : Ctx} {N : An} {σ σ' : St} {H B : Hp} {g : Sg} (R : Rep C N σ H B g) {n : Nat} (hl : σ'.length = n) : Rep C N σ' H B ⟨List.replicate n Slot.no, g.ct⟩ where
  len := by simp [hl]
  slots := fun i s e => by
    have e : (List.replicate n Slot.no)[i]? = some s := e
    rw [List.getElem?_replicate] at e
    split at e
    · cases e; trivial
    · cases e
  sep := fun i j p _ hi => by
    obtain ⟨s, e, h⟩ := hi
    have e : (List.replicate n Slot.no)[i]? = some s := e
    rw [List.getElem?_replicate] at e
    split at e
    · cases e; cases h
    · cases e
  sub := R.sub
  up := R.up
  new := R.new
  ownNew := fun i p hi => by
    obtain ⟨s, e, h⟩ := hi
    have e : (List.replicate n Slot.no)[i]? = some s := e
    rw [List.getElem?_replicate] at e
    split at e
    · cases e; cases h
    · cases e
  keep := R.keep
  st := R.st
section
variable {X : Cx} {s : Option StC} {E : St → XK} {pos p p1 p2 p3 p4 p5 np apos : Pos}
/-- the suite: return _law_error(e) -/
theorem suite_tells {a f : Addr} {oe : Obj} {cls : Value} {d : Option Addr} {pn : List (Addr × Obj)} {i k : Nat} {fd : FuncData} (hr : Room k X.A) (hm : X.mg "_law_error" = some (.ref f)) (hk : PySem.W.keepIn X.K (.ref f) = true) (hb : Binds X.K fd ["e"] [])
    (hz : L2N.Zn cls d oe) (hf : ∃ vs, oe.data = .fields vs) (hi : X.N[i]? = some "e") (hv : PE (X.suite a ((a, oe) :: pn)) (.Name "e" p2) (tVar i)) (hg : Gl X "_law_error") (he : starEach [.Name "e" p2] X.env = [(false, eval (.Name "e" p2) X.env)]) (hpl : (backTo p3 (starEach [] X.env)).any (·.1) = false) :
    PSs (X.suite a ((a, oe) :: pn)) [.Return (some (.Call (.Name "_law_error" p1) [.Name "e" p2] [] p3)) p4]
      (fun D σ H => ∃ (cl : Addr) (z : Str), cls = .ref cl ∧ d = none ∧ FnE X.prog X.w X.K X.mg X.base k f fd cl z ∧ (∃ σ0 : St, σ = σ0.set i (some (.ref a))) ∧ ∀ H', Le H H' → D.rt (.str z) H') := by
  have call : PE (X.suite a ((a, oe) :: pn)) (.Call (.Name "_law_error" p1) [.Name "e" p2] [] p3) (fun σ H Q => ∃ (cl : Addr) (z : Str), cls = .ref cl ∧ d = none ∧ FnE X.prog X.w X.K X.mg X.base k f fd cl z ∧ (∃ σ0 : St, σ = σ0.set i (some (.ref a))) ∧ ∀ H', Le H H' → Q (.str z) H') := by
    refine ⟨fun pins s σ H Q I h => ?_⟩
    obtain ⟨cl, z, rfl, rfl, F, ⟨σ0, e0⟩, q⟩ := h
    have hlt : i < σ0.length := by
      have := I.len
      rw [e0, List.length_set] at this
      rw [this]
      exact (List.getElem?_eq_some_iff.mp hi).1
    have ei : σ[i]? = some (some (.ref a)) := by rw [e0, List.getElem?_set_self hlt]
    refine wpAny_Call_Name_kw (ld_glob (X := X.suite a ((a, oe) :: pn)) I hg hm (PySem.W.callWith_K (h₀ := X.base) I.ok.mod.kin hk (thn ((pa_cons hv pa_nil he).run p3 pins s σ H (fun vs H1 => vs = [.ref a] ∧ H1 = H) I ⟨_, ei, rfl, rfl⟩) fun us s1 ⟨vs, H1, I1, r, ev, eH⟩ => ⟨I1.kIn, ?_⟩) he hpl) (by decide))
    subst ev
    subst eH
    have hl : us.length = 1 := r.length.symm
    have b := hb s1 us I1.kIn (by rw [List.append_nil]; exact hl)
    rw [List.append_nil] at b
    obtain ⟨vs, hvs⟩ := hf
    have P1 := I1.pin (a, oe) (List.mem_append_left _ List.mem_cons_self)
    have hpin : L2H.PinOk X.stack H1 s1 (a, oe) := ⟨P1.1, P1.2.1, fun hm => (List.mem_cons.mp (I1.stkSub _ hm)).elim P1.2.2.1 P1.2.2.2.1, P1.2.2.2.2⟩
    refine wpAny_call (codeAny_mono (F.run _ X.stack s1 H1 us Q a oe vs ⟨hr.dp, hr.un⟩ rfl hz hvs hpin I1.env0 b r q) fun r s' hq => ?_)
    match r with
    | .error e => obtain ⟨_, _, _, _, _, _, _, _, _, _, _, _, z⟩ := hq; exact z.elim
    | .ok (.ret u) => exact I1.after hq
    | .ok .next => exact hq.elim
    | .ok .brk => exact hq.elim
    | .ok .cont => exact hq.elim
  exact pss_one (ps_ret call)
theorem stry {k : Nat} {nm : Str → Option Str} {body : List Stmt} {fm : M Fl} (i : Nat) (ed : ErrD X.prog X.w X.K X.mg X.base k nm) (hr : Room k X.A) (hs : X.stack = X.env :: X.outer) (hf : X.env.frame = some X.env.locals) (hN : X.N.Nodup)
    (hb : ∀ (W : WX) (pn : List (Addr × Obj)) (xe : Value → Shared → Prop), L2N.Takes (X.tr pn xe) W → PassesOwn (model X.prog X.w) X.A X.env xe → DSs (cx (X.tr pn xe) s (WE W)) (X.tr pn xe) body fm)
    (hv : ∀ a pn, PE (X.suite a pn) (.Name "e" p2) (tVar i) := by intro _ _; exact pv _) (hi : X.N[i]? = some "e" := by rfl) (hln : X.env.kindOf "e" = some .local := by rfl) (hg : Gl X "_law_error" := by rfl) (hgN : Gl X "NetError" := by rfl)
    (he : starEach [.Name "e" p2] X.env = [(false, eval (.Name "e" p2) X.env)] := by rfl) (hpl : (backTo p3 (starEach [] X.env)).any (·.1) = false := by rfl) :
    DS (cx X s E) X (.Try body [.ExceptHandler (some (.Name "NetError" np)) (some "e") [.Return (some (.Call (.Name "_law_error" p1) [.Name "e" p2] [] p3)) p4] p5] [] [] pos) (tryM nm fm) := by
  obtain ⟨f, fd, eN, gN, gf, kf, bf, al⟩ := ed.ex
  have tk0 : L2N.Takes X (fun _ _ _ _ => False) := fun _ _ x => by
    obtain ⟨_, _, _, _, _, _, _, _, _, _, _, _, _, _, _, _, z⟩ := x
    exact z.elim
  have ps := L2N.ps_try_as (pos := pos) (i := i) (tb := fun W => toS (cx X s (WE W)) fm) (Wout := fun _ _ _ _ => False) hs hf hN hi hln ⟨hgN, by decide, .inl gN⟩ tk0 hb
    (fun a oe cls d pn hz hfl => suite_tells (k := k) (p1 := p1) (p2 := p2) (p3 := p3) (p4 := p4) hr gf kf bf hz hfl hi (hv _ _) hg he hpl) (np := np) (pos' := p5)
  refine dS ps fun N σ H B g D R q => ?_
  have R0 : Rep (cx X s (WE (wAs X.K (.ref eN) i (fun a cls d => fun D σ H => ∃ (cl : Addr) (z : Str), cls = .ref cl ∧ d = none ∧ FnE X.prog X.w X.K X.mg X.base k f fd cl z ∧ (∃ σ0 : St, σ = σ0.set i (some (.ref a))) ∧ ∀ H', Le H H' → D.rt (.str z) H') (fun _ _ _ _ => False) D))) ⟨N.H0, B⟩ σ H B g := (R.chE _).reB
  refine ⟨⟨N.H0, B⟩, B, g, R0, ?_⟩
  unfold tryM at q
  cases e : fm g with
  | bad => rw [e] at q; exact q
  | ok fl g1 =>
    rw [e] at q
    cases fl with
    | next => exact fun σ' H' B' R' L => q σ' H' B' (R.unreB (R'.chE _)) L
    | brk => exact fun σ' H' B' R' L => q σ' H' B' (R.unreB (R'.chE _)) L
    | cont => exact fun σ' H' B' R' L => q σ' H' B' (R.unreB (R'.chE _)) L
    | ret d => exact fun v σ' H' B' R' L rp => q v σ' H' B' (R.unreB (R'.chE _)) L rp
  | exc n ct =>
    rw [e] at q
    have q : FinS (cx X s E) N B (match nm n with
      | some z => .ok (.ret (.str z)) ⟨g.sl.map fun _ => .no, ct⟩
      | none => .bad) D := q
    cases e2 : nm n with
    | none => rw [e2] at q; exact q.elim
    | some z =>
      rw [e2] at q
      intro cl σ' H' B' R' hmn
      obtain ⟨ex, fe⟩ := al n z cl e2 hmn
      refine ⟨true, ex, fun _ a na => ⟨cl, z, rfl, rfl, fe, ⟨σ', rfl⟩, fun H2 L2' => ?_⟩, fun z => Bool.noConfusion z⟩
      have q : ∀ v σ' H' B', Rep (cx X s E) N σ' H' B' ⟨g.sl.map fun _ => Slot.no, ct⟩ → Le B B' → Rp X.K B' v (.str z) → D.rt v H' := q
      have em : (g.sl.map fun _ => Slot.no) = List.replicate g.sl.length Slot.no := List.map_const' ..
      rw [em] at q
      have R2 : Rep (cx X s E) N (List.replicate g.sl.length none) H' B' ⟨List.replicate g.sl.length Slot.no, ct⟩ := (R.unreB (R'.chE E)).bare2 (by simp)
      exact q _ _ H2 B' (R2.grow (.only L2')) R'.up (.str z)
end
end DL

set_option Elab.async false
set_option linter.all false
set_option maxRecDepth 100000
set_option maxHeartbeats 4000000
/-! DL17: the law's telling of an error, its body. -/
namespace DL
open PySem PySem.Spec L2 StX
open PyProof.Rows hiding St

section
variable {P : Program} {w : World} {K : PySem.W.Frag} {mg : Str → Option Value} {base : Heap}
theorem fnE_of {k : Nat} {x qual : Str} {st : Stmt} {f : Addr} {fd : FuncData} {N : List Str} {cl : Addr} {z : Str} (F : Fun K x qual st f fd) (S : FnScope N ["e"] (defScope st))
    (hbody : ∀ (cdv : Value) (A : Around) (outer : List Env) (s : Shared) (H : Hp) (Q : VK) (a : Addr) (oe : Obj) (vs : Array Value), L2H.RoomH k (A.deeper (envOfC qual (defScope st) s.heap.objs.size f cdv)) → L2H.Hot1 A (a, oe) → L2N.Zn (.ref cl) none oe → oe.data = .fields vs → (∀ H', Le H H' → Q (.str z) H') →
      ∃ t, PSs (L2H.cxH (L2N.CX P w) P w K mg base N qual (defScope st) f cdv A outer s H L2.E0 (a, oe)) (defBody st) t ∧ t { nx := fun _ H' => Q .non H', rt := Q } (start N [.ref a]) H) : FnE P w K mg base (k + 1) f fd cl z := by
  obtain ⟨oc, od, kV, doc, pm, an, cdv, ct, osl, rfl, lk, hcd⟩ := F.ex
  refine ⟨fun A outer s H us Q a oe vs hr hh hz hd hpin e0 hb r hq => ?_⟩
  have KX : K.In s.heap := e0.mod.kin.keeps fun b o e => (e0.bs b o e).1
  have hot : L2H.Hot1 A (a, oe) := ⟨hh, vs, hd, hz.2.2 vs hd⟩
  refine codeAny_call_function hr.depth (KX _ _ lk) rfl S.co S.gen rfl (PySem.W.codeRec_of KX hcd) (hb _ _ _ _ (wpAny_newFunctionEnv_cells S.kind (fun y hy => ?_) fun env he s1 ic => ?_))
  · rcases S.par y.1 (List.of_mem_zip hy).1 with q | q
    · exact .inl q
    · exact .inr ⟨q, PySem.W.cellsFrom_some _ _ _ (.inl q)⟩
  · subst he
    refine ⟨(e0.mod.nolimit.keeps fun b o e => (e0.bs b o e).1).keeps ic.toInCall.keep, codeAny_func ?_⟩
    obtain ⟨t, ht, hq2⟩ := hbody cdv A outer s H Q a oe vs (hr.deeper _) hot hz hd hq
    refine wpAny_mono (ht.run [] s1 (start N [.ref a]) H _ (L2H.inv_startH S hpin e0 rfl r ic) hq2) (fun fl s' hs => ?_) fun e s' hs => hs
    match fl with
    | .ret u =>
      obtain ⟨v, σ', H', J, rv, q⟩ := hs
      exact ⟨v, H', J.os, J.bare, J.base, J.hok, rv, q⟩
    | .next =>
      obtain ⟨σ', H', J, q⟩ := hs
      exact ⟨V.non, H', J.os, J.bare, J.base, J.hok, rfl, q⟩
    | .brk => obtain ⟨_, _, _, q⟩ := hs; exact q.elim
    | .cont => obtain ⟨_, _, _, q⟩ := hs; exact q.elim
end
/-- isinstance(e, c), e the handled error -/
def isM (i : Nat) (a : Addr) (b : Bool) : M D := fun g => match g.sl[i]? with
  | some (.raw (.ref a')) => if a' = a then .ok (.bool b) g else .bad
  | _ => .bad
theorem sat_isE {C : Ctx} {i : Nat} {a cl c : Addr} {b : Bool} (h : PySem.W.kitOne C.K (.ref cl) (.ref c) = some b) : Sat C (tCB (rIsE C.K cl a) (tCons (tVar i) (tCons (tC (.ref c)) tNil))) (isM i a b) := by
  intro N σ H B g Q R q
  unfold isM at q
  split at q
  · rename_i a' e
    split at q
    · rename_i ea
      subst ea
      have e1 := R.slots i _ e
      exact ⟨.ref a', getD_some e1, .ref c, .ref c, b, rfl, fun u hu => hu, h, q _ H B R (.refl _) (.bl b)⟩
    · exact q.elim
  · exact q.elim
theorem call_isP {X : Cx} {a cl : Addr} {oe : Obj} (hp : (a, oe) ∈ X.pn) (C : ExcC X.K cl) (hz : Zc (.ref cl) none oe) (hf : ∃ vs, oe.data = .fields vs) : CallR X (.builtin "isinstance") (rIsE X.K cl a) := by
  intro pins s σ H xs us Q I r h
  obtain ⟨c, cv, b, rfl, hcv, e, q⟩ := h
  obtain ⟨u, w', rfl, ru, rw'⟩ := vals2 r
  cases ru
  have ec := hcv _ rw'
  subst ec
  have hget := (I.pin (a, oe) (List.mem_append_left _ hp)).1
  obtain ⟨vs, hv⟩ := hf
  have J : PySem.W.InstAt s.heap a oe cl none := by
    obtain ⟨oc, od, oda, osl⟩ := oe
    obtain ⟨h1, h2⟩ := hz
    dsimp only at h1 h2 hv
    subst h1 h2 hv
    exact ⟨hget, rfl, rfl, trivial⟩
  exact PySem.W.kia_one (PySem.W.handS_kitx_exc C.hg C.hk C.hs C.hd C.ha C.hn C.ht C.hm) I.kIn J e (fun z => nomatch z) fun tk => ⟨.bl b, H, I.kept (t' := tk) fun _ _ z => z, rfl, q⟩
/-- the body's telling: which of the five classes it is -/
def errM (a : Addr) (b1 b2 b3 b4 b5 : Bool) : M Fl :=
  seqM (asgM (lstM (guardL (consM (isM 0 a b1) (consM (isM 0 a b2) (consM (isM 0 a b3) (consM (isM 0 a b4) (consM (isM 0 a b5) (pureM [])))))))) (putM 1))
  (seqM (asgM (lstM (lcM (srcA rng1 (consM (pureM (.int 5)) (pureM []))) (putM 3) (asB (op2 ixD (getM 1) (getM 3)))
    (op2 ixD (lstM (guardL (consM (pureM (.str "refused")) (consM (pureM (.str "large")) (consM (pureM (.str "missing")) (consM (pureM (.str "paper")) (consM (pureM (.str "form")) (pureM [])))))))) (getM 3)) [3])) (putM 2))
  (seqM (retM (op2 ixD (lstM (guardL (consM (pureM (.str "odd")) (consM (op2 ixD (op2 addD (getM 2) (lstM (guardL (consM (pureM (.str "")) (pureM []))))) (pureM (.int 0))) (pureM [])))))
    (opN intD (consM (op2 eqD (opN lenD (consM (getM 2) (pureM []))) (pureM (.int 1))) (pureM []))))) nextM))
def tells (r : Res Fl) (z : Str) : Prop := ∃ g, r = .ok (.ret (.str z)) g ∧ g.sl.length = 4
theorem errM_args (a : Addr) (b1 b2 b3 b4 b5 : Bool) (g : Sg) (hg : g.sl[0]? = some (.raw (.ref a))) :
    (consM (isM 0 a b1) (consM (isM 0 a b2) (consM (isM 0 a b3) (consM (isM 0 a b4) (consM (isM 0 a b5) (pureM [])))))) g = .ok [.bool b1, .bool b2, .bool b3, .bool b4, .bool b5] g := by
  have e : ∀ b, isM 0 a b g = .ok (.bool b) g := fun b => by
    unfold isM
    rw [hg]
    exact if_pos rfl
  simp only [consM, bindM, e, Res.bind, pureM]
theorem errM_1 (a : Addr) (ct : Int) : tells (errM a true false false false false ⟨[.raw (.ref a), .no, .no, .no], ct⟩) "refused" := by
  unfold errM seqM asgM lstM guardL bindM
  rw [errM_args _ _ _ _ _ _ _ rfl]
  exact ⟨_, rfl, rfl⟩
end DL

set_option Elab.async false
set_option linter.all false
set_option maxRecDepth 100000
set_option maxHeartbeats 4000000
/-! DL18: a, b = ([], y); the telling of errors, whole; the law's stream's next number. -/
namespace DL
open PySem PySem.Spec L2 StX
open PyProof.Rows hiding St

def parO (i j : Nat) (k : M D) : M Fl := bindM k fun y => fun g => .ok .next { g with sl := (g.sl.set i (.own [])).set j (.dat y) }
theorem satS_parO {C : Ctx} {i j : Nat} {te : TE} {k : M D} (h : Sat C te k) : SatS C (tPar i j (tCons (tLst tNil) (tCons te tNil))) (parO i j k) := by
  intro N σ H B g D R q
  refine ⟨Nat.zero_le _, fun p hp => ?_⟩
  have h0 : N.H0 p = none := R.fresh hp
  have R1 : Rep C ⟨upd N.H0 p (.lst []), N.B0⟩ σ (upd H p (.lst [])) B g := (R.newl hp).anchor upd_same (R.sub_none hp) h0 (R.free_own hp)
  have hb0 : N.B0 p = none := R.b0 (R.sub_none hp)
  have hst : ∀ c, C.st = some c → c.a ≠ p := fun c hc => R.stne hc h0
  refine h.run (P := fun x => FinS C N B x D) R1 q (fun n' ct z cl H' B' R' hm => z cl σ H' B' (R'.unanchor h0 hb0 hst).1 hm) (fun z => z) fun d g1 v1 H2 B2 _ R2 L2' rp q1 => ?_
  obtain ⟨U1, U2, U3, U4⟩ := R2.unanchor h0 hb0 hst
  exact ⟨_, _, rfl, q1 _ H2 B2 ((U1.setOwn i (s := .own []) ⟨p, [], rfl, U3, U2, .nil⟩ h0 U4).set j rp) L2'⟩
section
variable {X : Cx} {s : Option StC} {E : St → XK} {a b e : Expr} {f : M D} {pos p1 p2 p3 : Pos}
theorem sparO (i j : Nat) {x y : Str} {px py pt : Pos} {kt k2 pt2} (hc : X.calm = true) (hN : X.N.Nodup) (hb : DE (cx X s E) X b f) (hw : swappedStores [.Tuple [.Name x px, .Name y py] kt pt] (.Tuple [.List [] p1, b] k2 pt2) X.env = pure (some [x, y]) := by rfl) (hi : X.N[i]? = some x := by rfl) (hj : X.N[j]? = some y := by rfl) (hij : i ≠ j := by decide)
    (hx : X.env.scope.names.lookup x = some .local := by rfl) (hy : X.env.scope.names.lookup y = some .local := by rfl) (hs : swapsWithSole [.Tuple [.Name x px, .Name y py] kt pt] (.Tuple [.List [] p1, b] k2 pt2) pos.line X.env = pure false := by rfl)
    (he : starEach [.List [] p1, b] X.env = (false, eval (.List [] p1) X.env) :: starEach [b] X.env := by rfl) (he2 : starEach [b] X.env = [(false, eval b X.env)] := by rfl) :
    DS (cx X s E) X (.Assign [.Tuple [.Name x px, .Name y py] kt pt] (.Tuple [.List [] p1, b] k2 pt2) pos) (parO i j f) := dS (ps_par hc hN hi hj hij hx hy (pa_cons (pe_lst pa_nil) (pa_cons hb pa_nil he2) he) hw hs) (satS_parO sE)
end

/-! ### which error it is -/
theorem errM_2 (a : Addr) (ct : Int) : tells (errM a false true false false false ⟨[.raw (.ref a), .no, .no, .no], ct⟩) "large" := by
  unfold errM seqM asgM lstM guardL bindM
  rw [errM_args _ _ _ _ _ _ _ rfl]
  exact ⟨_, rfl, rfl⟩
theorem errM_3 (a : Addr) (ct : Int) : tells (errM a false false true false false ⟨[.raw (.ref a), .no, .no, .no], ct⟩) "missing" := by
  unfold errM seqM asgM lstM guardL bindM
  rw [errM_args _ _ _ _ _ _ _ rfl]
  exact ⟨_, rfl, rfl⟩
theorem errM_4 (a : Addr) (ct : Int) : tells (errM a false false false true false ⟨[.raw (.ref a), .no, .no, .no], ct⟩) "paper" := by
  unfold errM seqM asgM lstM guardL bindM
  rw [errM_args _ _ _ _ _ _ _ rfl]
  exact ⟨_, rfl, rfl⟩
theorem errM_5 (a : Addr) (ct : Int) : tells (errM a false false false false true ⟨[.raw (.ref a), .no, .no, .no], ct⟩) "form" := by
  unfold errM seqM asgM lstM guardL bindM
  rw [errM_args _ _ _ _ _ _ _ rfl]
  exact ⟨_, rfl, rfl⟩
section
variable {P : Program} {w : World} {K : PySem.W.Frag} {mg : Str → Option Value} {base : Heap}
theorem fnE_err {k : Nat} {x qual : Str} {st : Stmt} {f : Addr} {fd : FuncData} {N : List Str} {cl : Addr} {z : Str} {b1 b2 b3 b4 b5 : Bool} (F : Fun K x qual st f fd) (S : FnScope N ["e"] (defScope st)) (hN : N.length = 4) (ht : ∀ a ct, tells (errM a b1 b2 b3 b4 b5 ⟨[.raw (.ref a), .no, .no, .no], ct⟩) z)
    (hbody : ∀ (cdv : Value) (A : Around) (outer : List Env) (s : Shared) (H : Hp) (a : Addr) (oe : Obj), L2H.HotC (L2H.cxH (L2N.CX P w) P w K mg base N qual (defScope st) f cdv A outer s H L2.E0 (a, oe)) → (A.deeper (envOfC qual (defScope st) s.heap.objs.size f cdv)).units + 65 < cLine → Zc (.ref cl) none oe → (∃ vs, oe.data = .fields vs) →
      DSs (cx (L2H.cxH (L2N.CX P w) P w K mg base N qual (defScope st) f cdv A outer s H L2.E0 (a, oe)) none fun _ => L2.E0) (L2H.cxH (L2N.CX P w) P w K mg base N qual (defScope st) f cdv A outer s H L2.E0 (a, oe)) (defBody st) (errM a b1 b2 b3 b4 b5)) : FnE P w K mg base (k + 1) f fd cl z := by
  refine fnE_of F S fun cdv A outer s H Q a oe vs hr hot hz hd hq => ⟨_, hbody cdv A outer s H a oe ⟨(a, oe), hot, List.mem_singleton.mpr rfl⟩ (by have := hr.un; omega) hz.zc ⟨vs, hd⟩, ?_⟩
  obtain ⟨g, eg, hl⟩ := ht a 0
  refine ⟨⟨H, fun _ => none⟩, fun _ => none, ⟨[.raw (.ref a), .no, .no, .no], 0⟩, ?_, ?_⟩
  · refine ⟨?_, fun i sl e => ?_, fun i j p _ hi => ?_, fun _ _ q => (nomatch q), fun _ _ q => (nomatch q), fun _ _ q => (nomatch q), fun i p hi => ?_, fun _ _ q _ => q, fun c hc => (nomatch hc)⟩
    · unfold L2.start
      simp [hN]
    · match i, e with
      | 0, e => cases e; exact rfl
      | 1, e => cases e; trivial
      | 2, e => cases e; trivial
      | 3, e => cases e; trivial
      | i + 4, e => simp at e
    all_goals
      obtain ⟨sl, e, h⟩ := hi
      match i, e with
      | 0, e => cases e; cases h
      | 1, e => cases e; cases h
      | 2, e => cases e; cases h
      | 3, e => cases e; cases h
      | i + 4, e => simp at e
  · rw [eg]
    intro v σ' H' B' R _ rp
    cases rp
    exact hq H' fun a o q => R.keep a o q fun c hc => nomatch hc
section
variable {X : Cx} {s : Option StC} {E : St → XK} {pos p p1 p2 p3 : Pos}
theorem gisE {x : Str} {a cl c : Addr} {oe : Obj} {b : Bool} (hp : (a, oe) ∈ X.pn) (C : ExcC X.K cl) (hz : Zc (.ref cl) none oe) (hf : ∃ vs, oe.data = .fields vs) (hk : PySem.W.kitOne X.K (.ref cl) (.ref c) = some b) (hm : X.mg "isinstance" = none) (hc : X.mg x = some (.ref c)) (hg : Gl X "isinstance" := by rfl) (hg2 : Gl X x := by rfl) (hd : (x == ("__debug__" : Str)) = false := by decide)
    (hv : PE X (.Name "e" p1) (tVar 0) := by exact pv 0) (he : starEach [.Name "e" p1, .Name x p2] X.env = (false, eval (.Name "e" p1) X.env) :: starEach [.Name x p2] X.env := by rfl) (he2 : starEach [.Name x p2] X.env = [(false, eval (.Name x p2) X.env)] := by rfl) (hpl : (backTo p3 (starEach [.Name x p2] X.env)).any (·.1) = false := by rfl) :
    DE (cx X s E) X (.Call (.Name "isinstance" p) [.Name "e" p1, .Name x p2] [] p3) (isM 0 a b) := dE (pe_callB (call_isP hp C hz hf) hg hm PyProof.Rows.boot_isinstance (pa_cons hv (pa_cons (pe_glob (v := .ref c) hg2 hc rfl hd) pa_nil he2) he) (by decide) (by decide) he hpl) (sat_isE (C := cx X s E) hk)
/-- name = [..] over a range, an exception being handled -/
theorem slcH (i : Nat) {y : Str} {py spos : Pos} {elt tg a : Expr} {ifs : List Expr} {scope : Scope} {ts : List Nat} {fa : M (List D)} {kk : D → M Unit} {cc : M Bool} {ee : M D} {m : M Fl} (own : List (Str × Nat)) (hm : LcSet (cx X s E) i (lcM (srcA rng1 fa) kk cc ee (own.map (·.2))) m) (hc : L2H.HotC X) (hN : X.N.Nodup) (ok : BlkOk X.N X.env.scope scope own)
    (hsw : swapsWith (.ListComp elt [⟨tg, .Call (.Name "range" p1) [a] [] p2, ifs, 0⟩] scope pos) (some (.Name y py)) spos.line X.env = pure true) (hmr : X.mg "range" = none) (ha : DA (cx X s E) X [a] fa)
    (hg : ∀ (s0 : Shared) (H : Hp) (C : Addr) (cl : List (Str × Addr)) (fp : List Addr), DG (cx X s fun _ => L2.E0) (blkH X s0 H scope (compEnvC scope cl C X.env) fp) tg ts kk) (ht : ∀ (s0 : Shared) (H : Hp) (C : Addr) (cl : List (Str × Addr)) (fp : List Addr), DTs (cx X s fun _ => L2.E0) (blkH X s0 H scope (compEnvC scope cl C X.env) fp) ifs cc)
    (he : ∀ (s0 : Shared) (H : Hp) (C : Addr) (cl : List (Str × Addr)) (fp : List Addr), DE (cx X s fun _ => L2.E0) (blkH X s0 H scope (compEnvC scope cl C X.env) fp) elt ee) (hv : ∀ j, j ∈ ts → j ∈ own.map (·.2) := by decide) (hy : X.N[i]? = some y := by rfl) (hyl : X.env.scope.names.lookup y = some .local := by rfl) (hgr : Gl X "range" := by rfl) (hs1 : starEach [a] X.env = [(false, eval a X.env)] := by rfl) :
    DS (cx X s E) X (.Assign [.Name y py] (.ListComp elt [⟨tg, .Call (.Name "range" p1) [a] [] p2, ifs, 0⟩] scope pos) spos) m := dS (ps_setLcH hc hN hy hyl hsw (L2H.pi_range1H hgr hmr ha hs1) ok hg ht he (by intro _; rfl)) (hm.sat (satF_lc (C := cx X s E) (satI_rng1 sA) sG sT sE hv))
end
end
end DL

set_option Elab.async false
set_option linter.all false
set_option maxRecDepth 100000
set_option maxHeartbeats 4000000
/-! DL19: defs of the module by their mirrors. -/
namespace DL
open PySem PySem.Spec L2 StX
open PyProof.Rows hiding St

theorem u64 {A : Around} (h : A.units + 65 < cLine) : A.units + 64 < cLine := by omega
/-- n arguments, N places -/
def fn (n N : Nat) (m : List Int → M Fl) : FnM := fun ns ss ct => if ss.length = n then runF N m ns ss ct else .bad
theorem fn_ok {n N : Nat} {m : List Int → M Fl} : ∀ ns ss ct, fn n N m ns ss ct ≠ .bad → ss.length = n ∧ fn n N m ns ss ct = runF N m ns ss ct := fun ns ss ct h => by
  unfold fn at h ⊢
  by_cases e : ss.length = n
  · rw [if_pos e]; exact ⟨e, rfl⟩
  · rw [if_neg e] at h; exact (h rfl).elim
/-- a def of the module: its object, its name -/
structure DefD (K : PySem.W.Frag) (mg : Str → Option Value) (x : Str) (st : Stmt) (ps : List Str) : Prop where
  ex : ∃ (f : Addr) (fd : FuncData), Fun K x x st f fd ∧ mg x = some (.ref f) ∧ PySem.W.keepIn K (.ref f) = true ∧ Binds K fd ps []
section
variable {P : Program} {w : World} {K : PySem.W.Frag} {mg : Str → Option Value} {base : Heap}
theorem DefD.cal {x : Str} {st : Stmt} {ps N : List Str} {k n : Nat} {m : List Int → M Fl} (D : DefD K mg x st ps) (S : FnScope N ps (defScope st)) (hn : ps.length = n)
    (hbody : ∀ (f : Addr) (stc : Option StC) (cdv : Value) (A : Around) (outer : List Env) (s : Shared) (H : Hp) (E : XK), Room k (A.deeper (envOfC x (defScope st) s.heap.objs.size f cdv)) → (A.deeper (envOfC x (defScope st) s.heap.objs.size f cdv)).guards = some [] → (A.deeper (envOfC x (defScope st) s.heap.objs.size f cdv)).units + 65 < cLine →
      DSs (cx (cxOf (L2N.CX P w) P w K mg base N x (defScope st) f cdv A outer s H E) stc fun _ => E) (cxOf (L2N.CX P w) P w K mg base N x (defScope st) f cdv A outer s H E) (defBody st) (m (nsOf stc))) : CalD P w K mg base x (k + 1) (fn n N.length m) := by
  obtain ⟨f, fd, F, g, kp, b⟩ := D.ex
  subst hn
  exact ⟨f, fd, ps, fnD F S fn_ok fun stc cdv A outer s H E hr hgu => hbody f stc cdv A outer s H E hr hgu (by have := hr.un; omega), g, kp, b⟩
/-- a def that calls itself: by levels -/
theorem DefD.rec_ {x : Str} {st : Stmt} {ps N : List Str} {k n : Nat} {m : FnM → List Int → M Fl} {h : Nat → FnM} (D : DefD K mg x st ps) (S : FnScope N ps (defScope st)) (hn : ps.length = n) (h0 : h 0 = fun _ _ _ => .bad) (hs : ∀ j, h (j + 1) = fn n N.length (m (h j)))
    (hbody : ∀ (j : Nat), CalD P w K mg base x (k + j) (h j) → ∀ (f : Addr) (stc : Option StC) (cdv : Value) (A : Around) (outer : List Env) (s : Shared) (H : Hp) (E : XK), Room (k + j) (A.deeper (envOfC x (defScope st) s.heap.objs.size f cdv)) → (A.deeper (envOfC x (defScope st) s.heap.objs.size f cdv)).guards = some [] → (A.deeper (envOfC x (defScope st) s.heap.objs.size f cdv)).units + 65 < cLine →
      DSs (cx (cxOf (L2N.CX P w) P w K mg base N x (defScope st) f cdv A outer s H E) stc fun _ => E) (cxOf (L2N.CX P w) P w K mg base N x (defScope st) f cdv A outer s H E) (defBody st) (m (h j) (nsOf stc))) : ∀ j, CalD P w K mg base x (k + j) (h j)
  | 0 => by
    obtain ⟨f, fd, F, g, kp, b⟩ := D.ex
    have no : ∀ vs H Q E, ¬ spD K mg (h 0) vs H Q E := fun vs H Q E hsp => by
      rw [h0] at hsp
      obtain ⟨st, B, ss, ct, _, _, _, q⟩ := hsp
      exact q
    exact ⟨f, fd, ps, ⟨fun vs H Q E hsp => (no vs H Q E hsp).elim, fun A outer s H args us vs Q E _ _ _ _ _ hsp => (no vs H Q E hsp).elim⟩, g, kp, b⟩
  | j + 1 => by
    rw [hs]
    exact D.cal S hn fun f stc cdv A outer s H E hr hgu hu => hbody j (DefD.rec_ D S hn h0 hs hbody j) f stc cdv A outer s H E hr hgu hu
end
/-- a module's number -/
theorem gglobI {X : Cx} {s : Option StC} {E : St → XK} {x : Str} {i : Int} {pos : Pos} (h : ∃ t, X.mg x = some (.int i t)) (hg : Gl X x := by rfl) (hd : (x == ("__debug__" : Str)) = false := by decide) : DE (cx X s E) X (.Name x pos) (pureM (.int i)) := by
  obtain ⟨t, h⟩ := h
  exact gglob (v := .int i) h ⟨t, rfl⟩ (fun _ => .int i) hg hd
theorem exB {X : Cx} {E : XK} (tk : L2N.Takes X (fun cls d _ H => E cls d H)) : ∀ σ, PassesAt (L2N.CX X.prog X.w) X σ ((fun _ => E : St → XK) σ) := fun σ => L2N.passAt tk σ
theorem exT {X : Cx} {W : WX} (tk : L2N.Takes X W) : ∀ σ, PassesAt (L2N.CX X.prog X.w) X σ (WE W σ) := fun σ => L2N.passAt tk σ
end DL

set_option Elab.async false
set_option linter.all false
set_option maxRecDepth 100000
set_option maxHeartbeats 4000000
/-! DL20: the law's stream: its cell read and written; a list whose items are known; loops by an invariant. -/
namespace DL
open PySem PySem.Spec L2 StX
open PyProof.Rows hiding St

/-! ### the stream's cell -/
def st1M (i : Nat) : M D := fun g => match g.sl[i]? with
  | some .sta => .ok (.int g.ct) g
  | _ => .bad
def st0M (i : Nat) (ns : List Int) : M D := fun g => match g.sl[i]? with
  | some .sta => .ok (.list (ns.map PyData.int)) g
  | _ => .bad
def stSet (i : Nat) (f : M D) : M Fl := bindM f fun d g => match g.sl[i]?, oneInt d with
  | some .sta, some z => .ok .next { g with ct := z }
  | _, _ => .bad
section
variable {C : Ctx}
theorem sat_st1 {i : Nat} : Sat C (tOp (rIx C.K) (tVar i) (tC (.int 1))) (st1M i) := by
  intro N σ H B g Q R q
  unfold st1M at q
  split at q
  · rename_i e
    obtain ⟨c, hc, e1⟩ := R.slots i _ e
    obtain ⟨h1, h2, h3, h4⟩ := R.st c hc
    exact ⟨_, getD_some e1, .inl ⟨c.a, _, 1, .int g.ct, rfl, rfl, .inl (.inl h2), rfl, q _ H B R (.refl _) (.int _)⟩⟩
  · exact q.elim
theorem sat_st0 {i : Nat} : Sat C (tOp (rIx C.K) (tVar i) (tC (.int 0))) (st0M i C.ns) := by
  intro N σ H B g Q R q
  unfold st0M at q
  split at q
  · rename_i e
    obtain ⟨c, hc, e1⟩ := R.slots i _ e
    obtain ⟨h1, h2, h3, h4⟩ := R.st c hc
    have en : C.ns = c.ns := by show nsOf C.st = _; rw [hc]; rfl
    rw [en] at q
    exact ⟨_, getD_some e1, .inl ⟨c.a, _, 0, .ref c.na, rfl, rfl, .inl (.inl h2), rfl, q _ H B R (.refl _) (.lst h3 (Rps.ints _))⟩⟩
  · exact q.elim
theorem satS_stSet {i : Nat} {te : TE} {f : M D} (h : Sat C te f) : SatS C (tAsg te (gSub (tVar i) (tC (.int 1)) rSetL)) (stSet i f) := by
  intro N σ H B g D R q
  refine h.toS R q fun d g' v H1 B1 _ R1 L1 rp q1 => ?_
  have q2 : FinS C N B (match g'.sl[i]?, oneInt d with
    | some .sta, some z => .ok .next { g' with ct := z }
    | _, _ => .bad) D := q1
  clear q1
  cases e : g'.sl[i]? with
  | none => rw [e] at q2; exact q2.elim
  | some sl =>
  cases ez : oneInt d with
  | none => rw [e, ez] at q2; cases sl <;> exact q2.elim
  | some z =>
  rw [e, ez] at q2
  cases sl with
  | sta =>
    obtain rfl := oneInt_some ez
    cases rp
    obtain ⟨c, hc, e1⟩ := R1.slots i _ e
    obtain ⟨h1, h2, h3, h4⟩ := R1.st c hc
    refine ⟨_, getD_some e1, c.a, _, 1, 1, rfl, rfl, h2, rfl, ?_⟩
    refine q2 σ _ B1 (R1.post (ct := z) ⟨.refl _, fun _ _ q => .inl q, fun a o q => ?_, fun a o q hne => ?_, fun c' hc' => ?_⟩) L1
    · rw [upd_ne fun ea => by rw [ea, h1] at q; cases q]; exact R1.sub _ _ q
    · rw [upd_ne (hne c hc)]; exact q
    · rw [hc] at hc'; cases hc'; exact upd_same
  | _ => exact q2.elim
end
section
variable {X : Cx} {s : Option StC} {E : St → XK} {e : Expr} {f : M D} {pos p1 p2 p3 : Pos}
theorem gst1 (i : Nat) {x : Str} {j} (hv : PE X (.Name x p1) (tVar i) := by exact pv _) (hs : PlainIx (.Constant (.int 1) j p2) := by intro _ _; rfl) : DE (cx X s E) X (.Subscript (.Name x p1) (.Constant (.int 1) j p2) pos) (st1M i) := dE (pe_ix ix_seq hv pe_int hs) sat_st1
theorem gst0 (i : Nat) {x : Str} {j} (hv : PE X (.Name x p1) (tVar i) := by exact pv _) (hs : PlainIx (.Constant (.int 0) j p2) := by intro _ _; rfl) : DE (cx X s E) X (.Subscript (.Name x p1) (.Constant (.int 0) j p2) pos) (st0M i (nsOf s)) := dE (pe_ix ix_seq hv pe_int hs) (sat_st0 (C := cx X s E))
theorem sst (i : Nat) {x : Str} {j} (he : DE (cx X s E) X e f) (hv : PE X (.Name x p1) (tVar i) := by exact pv _) (hs : swapsWithSole [.Subscript (.Name x p1) (.Constant (.int 1) j p2) p3] e pos.line X.env = pure false := by rfl) (hw : swappedStores [.Subscript (.Name x p1) (.Constant (.int 1) j p2) p3] e X.env = pure none := by rfl)
    (h1 : (assignEach [.Subscript (.Name x p1) (.Constant (.int 1) j p2) p3] X.env).map (·.2) = [assign (.Subscript (.Name x p1) (.Constant (.int 1) j p2) p3) X.env] := by rfl) : DS (cx X s E) X (.Assign [.Subscript (.Name x p1) (.Constant (.int 1) j p2) p3] e pos) (stSet i f) := dS (ps_asg he (pg_sub hv pe_int set_list) hs hw h1) (satS_stSet sE)
end

/-! ### a fresh list whose items are known -/
def tFresh (vs : List V) : TE := fun σ H Q => ∀ q, H q = none → Q (.ref q) (upd H q (.lst vs))
def constF (ds : List D) : M (List D) := pureM ds
theorem satF_fresh {C : Ctx} {vs : List V} {ds : List D} (h : ∀ B, Rps C.K B vs ds) : SatF C (tFresh vs) (constF ds) := fun N σ H B g Q R q p hp => q p vs _ B (R.newl hp) (.refl _) (R.sub_none hp) upd_same (h B) (R.fresh hp) fun j hj => R.free_own hp j hj

/-! ### loops -/
theorem forM_inv {k : D → M Unit} {body : M Fl} (I : List D → Sg → Prop) (J : Sg → Prop)
    (step : ∀ x r g, I (x :: r) g → ∃ fl g', goG (k x) body g = .ok fl g' ∧ ((fl = .next ∨ fl = .cont) ∧ I r g' ∨ fl = .brk ∧ J g')) :
    ∀ xs g, I xs g → ∃ g', forM xs k body g = .ok .next g' ∧ (I [] g' ∨ J g')
  | [], g, h => ⟨g, rfl, .inl h⟩
  | x :: r, g, h => by
    obtain ⟨fl, g', e, z⟩ := step x r g h
    have e2 : forM (x :: r) k body g = (goG (k x) body g).bind fun f => match f with
      | .next => forM r k body
      | .cont => forM r k body
      | .brk => nextM
      | .ret d => pureM (.ret d) := by
      show goG (k x) (bindM body _) g = _
      unfold goG
      cases k x g <;> rfl
    rw [e2, e]
    rcases z with ⟨rfl | rfl, hi⟩ | ⟨rfl, hj⟩
    · exact forM_inv I J step r g' hi
    · exact forM_inv I J step r g' hi
    · exact ⟨g', rfl, .inr hj⟩
end DL

set_option Elab.async false
set_option linter.all false
set_option maxRecDepth 100000
set_option maxHeartbeats 4000000
/-! DL21: the def that makes the stream of a script; the law itself. -/
namespace DL
open PySem PySem.Spec L2 StX
open PyProof.Rows hiding St

/-- what the stream's def promises: a list of ints, not empty, at most 4000 -/
def spStream (K : PySem.W.Frag) : Sp := fun vs H Q _ => ∃ (a : Addr) (ns : List Int), vs = [.ref a] ∧ SqL K H a (ns.map V.int) ∧ ns.length ≤ 63 ∧
  ∀ v H' B' (ms : List Int), ms ≠ [] → ms.length ≤ 4000 → Post none H (fun _ => none) H' B' 0 → Rp K B' v (.list (ms.map PyData.int)) → Q v H'
structure StrD (P : Program) (w : World) (K : PySem.W.Frag) (mg : Str → Option Value) (base : Heap) (k : Nat) : Prop where
  ex : ∃ (f : Addr) (fd : FuncData), FnG P w K mg base k f fd ["script"] (spStream K) ∧ mg "_law_stream" = some (.ref f) ∧ PySem.W.keepIn K (.ref f) = true ∧ Binds K fd ["script"] []
/-- the mirror of the stream's body, the script's first 63 numbers known -/
def streamM (cell rest : M Fl) (ds : List D) : M Fl := seqM (forS (srcM (lstM (constF ds))) (putM 2) cell) rest
/-- .. makes such a list of every script -/
def StreamOk (cell rest : M Fl) : Prop := ∀ ns : List Int, ns.length ≤ 63 → ∃ (ms : List Int) (g : Sg), streamM cell rest (ns.map PyData.int) ⟨[.no, .own [], .no, .no, .no, .no], 0⟩ = .ok (.ret (.list (ms.map PyData.int))) g ∧ ms ≠ [] ∧ ms.length ≤ 4000
theorem tFor_imp {wi wi' : TI} {g : TG} {tb : TS} {D : Ends} {σ : St} {H : Hp} (h : ∀ R, wi' σ H R → wi σ H R) (q : tFor wi' g tb D σ H) : tFor wi g tb D σ H := h _ q
section
variable {P : Program} {w : World} {K : PySem.W.Frag} {mg : Str → Option Value} {base : Heap}
theorem stream_ok {k : Nat} {st : Stmt} {N : List Str} {cell rest : M Fl} (Df : DefD K mg "_law_stream" st ["script"]) (S : FnScope N ["script"] (defScope st)) (hN : N.length = 6) (ok : StreamOk cell rest)
    (hbody : ∀ (f : Addr) (cdv : Value) (A : Around) (outer : List Env) (s : Shared) (H : Hp) (E : XK), Room k (A.deeper (envOfC "_law_stream" (defScope st) s.heap.objs.size f cdv)) → (A.deeper (envOfC "_law_stream" (defScope st) s.heap.objs.size f cdv)).guards = some [] → (A.deeper (envOfC "_law_stream" (defScope st) s.heap.objs.size f cdv)).units + 65 < cLine →
      ∀ (C : Ctx), C = (cx (cxOf (L2N.CX P w) P w K mg base N "_law_stream" (defScope st) f cdv A outer s H E) none fun _ => E) →
      PSs (cxOf (L2N.CX P w) P w K mg base N "_law_stream" (defScope st) f cdv A outer s H E) (defBody st) (tSeq (tAsg (tLst tNil) (gName 1)) (tSeq (tFor (iAny K (tSl (rSlL K) (tVar 0) tNoPart (tPart (tC (.int 63))))) (gName 2) (toS C cell)) (toS C rest)))) : StrD P w K mg base (k + 1) := by
  obtain ⟨f, fd, F, g, kp, b⟩ := Df.ex
  refine ⟨f, fd, fn_ofG F S (fun vs H Q E hs => ?_) (fun cdv A outer s H vs Q E hr hgu hs => ⟨_, hbody f cdv A outer s H E hr hgu (by have := hr.un; omega) _ rfl, ?_⟩), g, kp, b⟩
  · obtain ⟨a, ns, rfl, _⟩ := hs
    rfl
  · obtain ⟨a, ns, rfl, hS, hlen, q⟩ := hs
    generalize hC : (cx (cxOf (L2N.CX P w) P w K mg base N "_law_stream" (defScope st) f cdv A outer s H E) none fun _ => E) = C
    have hCK : C.K = K := by
      rw [← hC]
      rfl
    have hCs : C.st = none := by rw [← hC]
    refine ⟨Nat.zero_le _, fun p hp => ?_⟩
    have hl63 : (ns.take 63).length ≤ 63 := by rw [List.length_take]; omega
    obtain ⟨ms, gE, er, h0, h1⟩ := ok (ns.take 63) hl63
    -- the state behind numbers = []
    have R0 : Rep C ⟨H, fun _ => none⟩ (start N [V.ref a]) (upd H p (.lst [])) (fun _ => none) ⟨[.no, .no, .no, .no, .no, .no], 0⟩ := by
      refine ⟨?_, fun i sl e => ?_, fun i j q _ hi => ?_, fun _ _ q => (nomatch q), fun _ _ q => (nomatch q), fun _ _ q => (nomatch q), fun i q hi => ?_, fun b o q _ => by rw [upd_ne (ne_of_none q hp)]; exact q, fun c hc => by rw [hCs] at hc; cases hc⟩
      · unfold L2.start
        simp [hN]
      · match i, e with
        | 0, e => cases e; trivial
        | 1, e => cases e; trivial
        | 2, e => cases e; trivial
        | 3, e => cases e; trivial
        | 4, e => cases e; trivial
        | 5, e => cases e; trivial
        | i + 6, e => simp at e
      all_goals
        obtain ⟨sl, e, h⟩ := hi
        match i, e with
        | 0, e => cases e; cases h
        | 1, e => cases e; cases h
        | 2, e => cases e; cases h
        | 3, e => cases e; cases h
        | 4, e => cases e; cases h
        | 5, e => cases e; cases h
        | i + 6, e => simp at e
    have R1 := R0.setOwn 1 (s := .own []) (p := p) ⟨p, [], rfl, rfl, upd_same, .nil⟩ hp fun j hj => by
      obtain ⟨sl, e, h⟩ := hj
      match j, e with
      | 0, e => cases e; cases h
      | 1, e => cases e; cases h
      | 2, e => cases e; cases h
      | 3, e => cases e; cases h
      | 4, e => cases e; cases h
      | 5, e => cases e; cases h
      | j + 6, e => simp at e
    have sat : SatS C (tSeq (tFor (iAny C.K (tFresh ((ns.take 63).map V.int))) (gName 2) (toS C cell)) (toS C rest)) (streamM cell rest ((ns.take 63).map PyData.int)) :=
      satS_seq (satS_for (satI_any (satF_fresh fun _ => Rps.ints _).sat) satG_name sS) sS
    have red := sat ⟨H, fun _ => none⟩ _ _ _ _ { nx := fun _ H' => Q .non H', rt := Q } R1 (by
      rw [show ({ sl := ([.no, .no, .no, .no, .no, .no] : List Slot).set 1 (.own []), ct := 0 } : Sg) = ⟨[.no, .own [], .no, .no, .no, .no], 0⟩ from rfl, er]
      intro v σ' H' B' R' L' rp
      refine q v H' B' ms h0 h1 ⟨fun _ _ q => (nomatch q), R'.new, R'.sub, fun b o hb hne => R'.keep b o hb fun c hc => (by rw [hCs] at hc; cases hc), fun c hc => (nomatch hc)⟩ ?_
      rw [← hCK]
      exact rp)
    change tFor (iAny K (tSl (rSlL K) (tVar 0) tNoPart (tPart (tC (.int 63))))) (gName 2) (toS C cell) _ _ _
    refine tFor_imp (fun R h => ?_) red
    -- the slice of the script is that list
    rw [hCK] at h
    have e0 : ((start N [V.ref a]).set 1 (some (.ref p)))[0]? = some (some (V.ref a)) := by
      match N, hN with
      | [_, _, _, _, _, _], _ => rfl
    have hS1 : SqL K (upd H p (.lst [])) a (ns.map V.int) := Le.sqL (fun b o q => by rw [upd_ne (ne_of_none q hp)]; exact q) hS
    refine ⟨.ref a, e0, 63, rfl, a, _, rfl, hS1, fun q hq => ?_⟩
    have ec : cutV (ns.map V.int) none (some 63) = (ns.take 63).map V.int := by
      unfold cutV
      rw [HT.sIx_none, show HT.sIx (ns.map V.int).length (ns.map V.int).length (some (63 : Int)) = min 63 (ns.map V.int).length from HT.sIx_nat _ _ 63, List.drop_zero, Nat.sub_zero, List.map_take]
      rw [List.length_map]
      by_cases hz : ns.length ≤ 63
      · rw [Nat.min_eq_right hz, List.take_of_length_le (by simp), List.take_of_length_le (by simp; omega)]
      · rw [Nat.min_eq_left (by omega)]
    rw [ec]
    exact h q hq
end
end DL

set_option Elab.async false
set_option linter.all false
set_option maxRecDepth 100000
set_option maxHeartbeats 4000000
/-! DL22: the law itself, called; its head. -/
namespace DL
open PySem PySem.Spec L2 StX
open PyProof.Rows hiding St

theorem lawG {P : Program} {w : World} {K : PySem.W.Frag} {mg mb : Str → Option Value} {k : Nat} {fa a : Addr} {fd : FuncData} {x : Str} {sp : Sp} {s₁ : Shared} {vs : List Value} {ns : List Int}
    (KX : K.In s₁.heap) (hns : s₁.heap.Ns mainGlobals mg) (hb : s₁.heap.Ns builtinsNs mb) (hbb : ∀ x : Str, x ≠ "__name__" → mb x = bootBuiltins x) (hlim : s₁.heap.NoLimit) (hg : s₁.gens = #[])
    (ha : s₁.heap.get? a = some { cls := .type "list", data := .seq vs.toArray }) (hi : IntsAre vs ns) (hl : ns.length ≤ sizeLine) (hr : Room k callerA)
    (F : ∀ base : Heap, K.In base → base.Ns mainGlobals mg → FnG P w K mg base k fa fd [x] sp) (hbind : ∀ (s : Shared) (u : Value), BindsTo s fd ⟨[u], []⟩ [(x, u)])
    (hsp : ∀ H : Hp, Only H → SqL K H a (ns.map V.int) → sp [.ref a] H (fun v _ => v = .bl true) fun _ _ _ => False)
    : codeAny (model P w) callerA (.call (.ref fa) ⟨[.ref a], []⟩) (fun r s' => r = .ok (.ret (.bool true)) ∧ OldK s₁.heap s'.heap ∧ s'.os = s₁.os ∧ AllBare s'.gens) s₁ := by
  have rv := vals_ints hi
  have lenV := hi.length
  -- from an abstract heap in which nothing but the script may be tracked
  have core : ∀ H : Hp, Only H → SqL K H a (ns.map V.int) → HOk P w H s₁.heap → (∀ b, H b ≠ none → b = a) → (H a ≠ none → K.lookup a = none) →
      codeAny (model P w) callerA (.call (.ref fa) ⟨[.ref a], []⟩) (fun r s' => r = .ok (.ret (.bool true)) ∧ OldK s₁.heap s'.heap ∧ s'.os = s₁.os ∧ AllBare s'.gens) s₁ := by
    intro H hO hS hok hA hK
    have base_of : ∀ {b : Addr} {o : Obj}, s₁.heap.get? b = some o → H b = none → (hidT s₁.heap H).get? b = some o := fun e n => hidT_get e n
    have noA : ∀ {b : Addr} {o : Obj} {es : Array DictEntry} {ep : Nat}, s₁.heap.get? b = some o → o.data = .dict es ep → H b = none := fun {b o es ep} e d => by
      cases q : H b with
      | none => rfl
      | some u =>
        have e' : b = a := hA b (by rw [q]; simp)
        subst e'
        rw [ha] at e; cases e
        have d' : Data.seq vs.toArray _ = Data.dict es ep := d
        cases d'
    have nsK : ∀ {b : Addr} {m : Str → Option Value}, s₁.heap.Ns b m → (hidT s₁.heap H).Ns b m := fun {b m} ⟨o, es, ep, e, d, r⟩ => ⟨o, es, ep, base_of e (noA e d), d, r⟩
    have hKb : K.In (hidT s₁.heap H) := fun b o e => base_of (KX b o e) (by
      cases q : H b with
      | none => rfl
      | some u =>
        have e' : b = a := hA b (by rw [q]; simp)
        subst e'
        rw [hK (by rw [q]; simp)] at e; cases e)
    have hM : Mod K mg (hidT s₁.heap H) := ⟨hKb, nsK hns, ⟨mb, nsK hb, hbb⟩, let ⟨mc, h1, h2⟩ := hlim; ⟨mc, nsK h1, h2⟩⟩
    have e0 : Env0 P w K mg (hidT s₁.heap H) callerA [] s₁ H := ⟨rfl, hM, fun b o e => of_hidT e, Nat.le_of_eq (hidT_size _ _), trivial, fun b hb => absurd (show b ∈ ([] : List Addr) from hb) (by simp), hok, .of_eq hg⟩
    refine codeAny_mono ((F _ hKb (nsK hns)).run callerA [] s₁ H ⟨[.ref a], []⟩ [.ref a] [.ref a] _ _ hr rfl e0 (hbind s₁ (.ref a)) (.cons rfl .nil) (hsp H hO hS)) fun r s' h => ?_
    cases r with
    | error e => obtain ⟨_, _, _, _, _, _, _, _, _, _, _, _, z⟩ := h; exact z.elim
    | ok fl =>
      cases fl with
      | next => exact False.elim h
      | brk => exact False.elim h
      | cont => exact False.elim h
      | ret u =>
        obtain ⟨v, H', os, bare, un, hok', r', q⟩ := h
        have q' : v = .bl true := q
        subst q'
        obtain rfl : u = Value.bool true := r'
        refine ⟨rfl, OldK.of_keep fun b o e => ?_, os, bare⟩
        cases q : H b with
        | none => exact un.keep b o e q (by intro z; exact absurd (show b ∈ ([] : List Addr) from z) (by simp)) (by simp)
        | some u =>
          rcases hO b with z | ⟨ob, xs, z⟩
          · rw [q] at z; cases z
          · have z2 := un.frzs b ob _ z
            obtain ⟨e1, _⟩ := hok b _ z
            obtain ⟨e2, _⟩ := hok' b _ z2
            rw [e] at e1; cases e1
            exact e2
  cases hk : K.lookup a with
  | some o =>
    -- the script is one of the module's own objects
    have e := KX a o hk
    rw [ha] at e
    cases e
    refine core (fun _ => none) (fun _ => .inl rfl) (.inr ⟨_, vs.toArray, _, hk, rfl, rfl, rfl, by rw [List.size_toArray, lenV]; exact hl, by simpa using rv⟩) (fun b u z => by have z' : (none : Option HO) = some u := z; cases z') (fun b z => absurd rfl z) fun z => absurd rfl z
  | none =>
    refine core (fun b => if b = a then some (.frz { cls := .type "list", data := .seq vs.toArray } (.lst (ns.map V.int))) else none) (fun b => ?_) (.inl (.inr ⟨{ cls := .type "list", data := .seq vs.toArray }, if_pos rfl⟩)) (fun b u z => ?_) (fun b z => ?_) fun _ => hk
    · by_cases hb : b = a
      · exact .inr ⟨_, _, if_pos hb⟩
      · exact .inl (if_neg hb)
    · by_cases hb : b = a
      · have z' := (if_pos hb).symm.trans z
        cases z'
        subst hb
        exact ⟨ha, by rw [List.length_map]; exact hl, vs, _, rv, ha⟩
      · have z' := (if_neg hb).symm.trans z
        cases z'
    · by_cases hb : b = a
      · exact hb
      · exact absurd (if_neg hb) z

theorem walkG {l : PySem.W.OpenLaw} {n k : Nat} {q : Program} {loose : List Str} {XP : (Str → Option Value) → Heap → Prop} {YP : World → Heap → Prop} {d : DefRec} {K : Params → PySem.W.Frag} {sp : World → Sp} {x : Str}
    (hn : l.most = some n) (hn2 : n ≤ sizeLine) (hdf : d.params.defaults = []) (hr : Room k callerA)
    (hY : ∀ (w : World) (h : Heap), YP w h → (K w.params).In h)
    (F : ∀ (w : World) (mg : Str → Option Value) (fa : Addr) (h : Heap), (K w.params).In h → h.Ns mainGlobals mg → mg d.name = some (.ref fa) →
      ∃ fd : FuncData, (∀ (s : Shared) (u : Value), BindsTo s fd ⟨[u], []⟩ [(x, u)]) ∧
        ∀ base : Heap, (K w.params).In base → base.Ns mainGlobals mg → FnG l.prog w (K w.params) mg base k fa fd [x] (sp w))
    (hsp : ∀ (w : World) (H : Hp) (a : Addr) (ns : List Int), ns.length ≤ n → Only H → SqL (K w.params) H a (ns.map V.int) → sp w [.ref a] H (fun v _ => v = .bl true) fun _ _ _ => False)
    : PySem.W.WalkO q loose XP YP l.row.toRowW d [] (fun f vs => PySem.call f vs) := by
  refine Att.attach_call hn hdf fun w s₀ s₁ mg mb fa o pm cd doc a vs ns G Y ho hd hcd hmg hobj hints hlen hg => ?_
  have KX := hY w _ Y
  obtain ⟨fd, hb, hF⟩ := F w mg fa _ KX G.T.g hmg
  exact lawG KX G.T.g G.T.b G.T.builtins G.T.nolimit hg hobj hints (Nat.le_trans hlen hn2) hr hF hb (fun H hO hS => hsp w H a ns hlen hO hS)
end DL

set_option Elab.async false
set_option linter.all false
set_option maxRecDepth 100000
set_option maxHeartbeats 4000000
/-! DL23: the law's promise from its mirror. -/
namespace DL
open PySem PySem.Spec L2 StX
open PyProof.Rows hiding St

def spLaw (K : PySem.W.Frag) : Sp := fun vs H Q _ => ∃ (a : Addr) (ns : List Int), vs = [.ref a] ∧ SqL K H a (ns.map V.int) ∧ ns.length ≤ 63 ∧ ∀ H', Q (.bl true) H'
theorem pss_ex {X : Cx} {l : List Stmt} {ι : Type} {t : ι → TS} (h : ∀ i, PSs X l (t i)) : PSs X l (fun D σ H => ∃ i, t i D σ H) := ⟨fun pins s σ H D I ⟨i, q⟩ => (h i).run pins s σ H D I q⟩
/-- how the law begins: its stream and the count 0, in a list -/
def tState (K : PySem.W.Frag) (E : XK) : TS := tAsg (tLst (tCons (tCallSD (spStream K) [] (fun _ => E) (tCons (tVar 0) tNil)) (tCons (tC (.int 0)) tNil))) (gName 1)
/-- at every stream the law's mirror answers True -/
def LawOk (n : Nat) (m : List Int → M Fl) : Prop := ∀ ms : List Int, ms ≠ [] → ms.length ≤ 4000 → ∃ g, m ms ⟨.no :: .sta :: List.replicate n .no, 0⟩ = .ok (.ret (.bool true)) g
section
variable {P : Program} {w : World} {K : PySem.W.Frag} {mg : Str → Option Value} {base : Heap}
theorem law_ok {k n : Nat} {st : Stmt} {N : List Str} {m : List Int → M Fl} {f : Addr} {fd : FuncData} (F : Fun K "law" "law" st f fd) (S : FnScope N ["script"] (defScope st)) (hN : N.length = n + 2) (ok : LawOk n m)
    (hbody : ∀ (cdv : Value) (A : Around) (outer : List Env) (s : Shared) (H : Hp) (E : XK), Room k (A.deeper (envOfC "law" (defScope st) s.heap.objs.size f cdv)) → (A.deeper (envOfC "law" (defScope st) s.heap.objs.size f cdv)).guards = some [] → (A.deeper (envOfC "law" (defScope st) s.heap.objs.size f cdv)).units + 65 < cLine →
      PSs (cxOf (L2N.CX P w) P w K mg base N "law" (defScope st) f cdv A outer s H E) (defBody st) (tSeq (tState K E) (fun D σ H1 => ∃ stc : Option StC, toS (cx (cxOf (L2N.CX P w) P w K mg base N "law" (defScope st) f cdv A outer s H E) stc fun _ => E) (m (nsOf stc)) D σ H1))) : FnG P w K mg base (k + 1) f fd ["script"] (spLaw K) := by
  refine fn_ofG F S (fun vs H Q E hs => ?_) (fun cdv A outer s H vs Q E hr hgu hs => ⟨_, hbody cdv A outer s H E hr hgu (by have := hr.un; omega), ?_⟩)
  · obtain ⟨a, ns, rfl, _⟩ := hs
    rfl
  · obtain ⟨a, ns, rfl, hS, hlen, q⟩ := hs
    have hst : start N [V.ref a] = some (.ref a) :: none :: List.replicate n none := by
      unfold L2.start
      rw [hN]
      rfl
    rw [hst]
    refine ⟨.ref a, rfl, a, ns, rfl, hS, hlen, fun v H1 B1 ms h0 h1 P1 rp => ?_⟩
    refine ⟨by show 2 ≤ sizeLine; decide, fun p hp => ?_⟩
    obtain ⟨na, vs, rfl, hna, rvs⟩ : ∃ na vs, v = .ref na ∧ B1 na = some (.lst vs) ∧ Rps K B1 vs (ms.map PyData.int) := by cases rp; exact ⟨_, _, rfl, by assumption, by assumption⟩
    have evs := rvs.of_ints
    subst evs
    obtain ⟨g, eg⟩ := ok ms h0 h1
    refine ⟨some ⟨p, na, ms⟩, ⟨upd H1 p (.lst [.ref na, .int 0]), B1⟩, B1, ⟨.no :: .sta :: List.replicate n .no, 0⟩, ?_, ?_⟩
    · have hb : B1 p = none := by
        cases e : B1 p with
        | none => rfl
        | some o => have := P1.s p o e; rw [hp] at this; cases this
      refine ⟨?_, fun i sl e => ?_, fun i j r _ hi => ?_, fun b o e => ?_, fun _ _ q => q, fun _ _ q => .inl q, fun i r hi => ?_, fun _ _ q _ => q, fun c hc => ?_⟩
      · simp
      · match i, e with
        | 0, e => cases e; trivial
        | 1, e => cases e; exact ⟨_, rfl, rfl⟩
        | i + 2, e =>
          have e : (List.replicate n Slot.no)[i]? = some sl := e
          rw [List.getElem?_replicate] at e
          split at e
          · cases e; trivial
          · cases e
      · obtain ⟨sl, e, h⟩ := hi
        match i, e with
        | 0, e => cases e; cases h
        | 1, e => cases e; cases h
        | i + 2, e =>
          have e : (List.replicate n Slot.no)[i]? = some sl := e
          rw [List.getElem?_replicate] at e
          split at e
          · cases e; cases h
          · cases e
      · show upd H1 p _ b = some o
        rw [upd_ne fun z => by rw [z, hb] at e; cases e]
        exact P1.s b o e
      · obtain ⟨sl, e, h⟩ := hi
        match i, e with
        | 0, e => cases e; cases h
        | 1, e => cases e; cases h
        | i + 2, e =>
          have e : (List.replicate n Slot.no)[i]? = some sl := e
          rw [List.getElem?_replicate] at e
          split at e
          · cases e; cases h
          · cases e
      · cases hc
        exact ⟨hb, upd_same, hna, by show upd H1 p _ p ≠ none; rw [upd_same]; exact fun z => nomatch z⟩
    · show FinS _ _ _ (m ms _) _
      rw [eg]
      intro v σ' H' B' R' L' rp
      cases rp
      exact q H'
end
end DL

set_option Elab.async false
set_option linter.all false
/-! DL24: is it of the class: two own classes. -/
namespace DL
open PySem PySem.Spec L2 StX
open PyProof.Rows hiding St
theorem kitC {K : PySem.W.Frag} {cls : Value} {C : Addr} {b : Bool} (hd : PySem.W.hasDictIn K C = true) (ht : PySem.W.typeIn K (.ref C) = some (.type "type")) (h : PySem.W.subIn K cls (.ref C) = some b) : PySem.W.kitCls K cls (.ref C) = some b := by
  obtain ⟨cd, hc, _⟩ := PySem.W.any_some hd
  have e2 : ((PySem.W.clsIn K C).isSome && PySem.W.typeIn K (.ref C) == some (.type "type")) = true := by rw [hc, ht] <;> rfl
  show (if ((PySem.W.clsIn K C).isSome && PySem.W.typeIn K (.ref C) == some (.type "type")) = true then PySem.W.subIn K cls (.ref C) else none) = some b
  rw [if_pos e2]
  exact h
theorem kitT {K : PySem.W.Frag} {cls : Value} {C : Addr} (hd : PySem.W.hasDictIn K C = true) (ht : PySem.W.typeIn K (.ref C) = some (.type "type")) (h : PySem.W.subIn K cls (.ref C) = some true) : PySem.W.kitOne K cls (.ref C) = some true := by
  unfold PySem.W.kitOne
  split
  · rfl
  · exact kitC hd ht h
theorem kitF {K : PySem.W.Frag} {B C : Addr} (hs : PySem.W.subIn K (.ref B) (.ref B) = some true) (hd : PySem.W.hasDictIn K C = true) (ht : PySem.W.typeIn K (.ref C) = some (.type "type")) (h : PySem.W.subIn K (.ref B) (.ref C) = some false) : PySem.W.kitOne K (.ref B) (.ref C) = some false := by
  unfold PySem.W.kitOne
  split
  · rename_i e
    have e : B = C := Value.ref.inj (beq_iff_eq.mp e)
    subst e
    rw [hs] at h
    cases h
  · exact kitC hd ht h
end DL

set_option Elab.async false
set_option linter.all false
set_option maxRecDepth 100000
set_option maxHeartbeats 4000000
/-! DL25: a list comprehension out of which an error may come. -/
namespace DL
open PySem PySem.Spec L2 StX
open PyProof.Rows hiding St

section
variable {M : Model} {A : Around} {E : Value → Shared → Prop} {s : Shared} {env : Env}
def compPostX (M : Model) (A : Around) (E : Value → Shared → Prop) (Q : Value → Shared → Prop) (acc : Value) (cenv : Env) (r : Result) (s' : Shared) : Prop :=
  match r with
  | .ok _ => ∃ m, s'.heap.Ns cenv.locals m ∧ ∀ h', Heap.SameBut cenv.locals s'.heap h' → Q acc { s' with heap := h' }
  | .error x => ∃ m, s'.heap.Ns cenv.locals m ∧ ∀ h', Heap.SameBut cenv.locals s'.heap h' → wpAny M A (passOn "comprehension.variables-let-go" x cenv : Sem Value) (fun _ _ => False) E { s' with heap := h' }
theorem comprehension_x {e : Expr} {scope : Scope} {pos : Pos} {newAcc first : Sem Value} {g : Comprehension} {gs : List Comprehension} {cl : List (Str × Addr)} {Q : Value → Shared → Prop}
    (hcl : clausesOf e = g :: gs) (hs : ∀ x, foldedSetIterable g.iter env x = pure x) (hclos : closureFor scope env = pure cl) (hkind : scope.kind = .function) (hnames : ∀ x ∈ scope.names, x.2 = .local → scope.names.lookup x.1 = some .local)
    (h : wpAny M A first (fun x s₁ => wpAny M A (pyIter x) (fun it s₂ => wpAny M A newAcc (fun acc s₃ => wpAny M A (newFunctionEnv scope env.globals cl [] env.qual none .none (some env)) (fun cenv s₄ =>
        codeAny M A (.compStart e 0 it acc { cenv with scope := relabel scope env }) (compPostX M A E Q acc { cenv with scope := relabel scope env }) s₄) E s₃) E s₂) E s₁) E s) :
    wpAny M A (comprehension e scope env pos newAcc false first none) Q E s := by
  unfold comprehension
  rw [hclos, hcl]
  refine wpAny_bind (wpAny_mono h (fun x s₁ h₁ => wpAny_bind (wpAny_standAt (wpAny_bind (wpAny_of_eq (hs x) (wpAny_bind (wpAny_holding (wpAny_mono h₁ (fun it s₂ h₂ =>
    wpAny_standIf (wpAny_bind (wpAny_mono h₂ (fun acc s₃ h₃ => wpAny_bind (wpAny_pure (wpAny_bind (wpAny_mono h₃ (fun cenv s₄ h₄ => ?_) fun _ _ h' => h')))) fun _ _ h' => h')))
      fun _ _ h' => h'))))))) fun _ _ h' => h')
  dsimp only
  have hv : ∀ x ∈ (scope.names.filter fun x => (x.2 == .local || x.2 == .cell) && x.1 != (".0" : Str)).reverse, x.2 = .local → Env.kindOf { cenv with scope := relabel scope env } x.1 = some .local :=
    fun x hx hl => lookup_relabel_local (hnames x (List.mem_filter.mp (List.mem_reverse.mp hx)).1 hl)
  refine wpAny_holding (wpAny_bind (wpAny_attempt (wpAny_holding (wpAny_run (codeAny_mono h₄ fun r s' hr => ?_)))))
  cases r with
  | ok f =>
    obtain ⟨m, hn, hr⟩ := hr
    exact wpAny_bind (wpAny_holding (wpAny_comp_letGo (cenv := { cenv with scope := relabel scope env }) hkind _ s' m hv hn fun h' m' _ hs' => wpAny_pure (hr h' hs')))
  | error x =>
    obtain ⟨m, hn, hr⟩ := hr
    exact wpAny_bind (wpAny_holding (wpAny_comp_letGo (cenv := { cenv with scope := relabel scope env }) hkind _ s' m hv hn fun h' m' _ hs' => wpAny_mono (hr h' hs') (fun _ _ f => f.elim) fun _ _ y => y))
end

/-- an error that flies out of a block, the block's own names at C -/
structure BX (X : Cx) (σ : St) (C : Addr) (W : XK) (u : Value) (s' : Shared) : Prop where
  ex : ∃ (a : Addr) (B : Heap) (sI : Shared) (pins : List (Addr × Obj)) (H' : Hp) (cls : Value) (d : Option Addr), u = .ref a ∧ Inv X pins σ H' sI ∧ (∀ b o, sI.heap.get? b = some o → b ∉ frs X.stack → B.get? b = some o) ∧ sI.heap.UpToSlots s'.heap ∧
    HandSPX.FlyingZ B X.stack a (L2N.Zn cls d) s'.heap ∧ H' a = none ∧ s'.os = sI.os ∧ AllBare s'.gens ∧ W cls d H' ∧ (∃ m, s'.heap.Ns C m) ∧ B.get? C = none ∧ sI.heap.get? C = none ∧ C ∉ frs X.stack
section
variable {X : Cx} {σ : St}
theorem noteFrame_eq {e : Value} {ce env : Env} (h : ce.frame = env.frame) : noteFrame e ce = noteFrame e env := by
  unfold noteFrame PySem.frameOf
  rw [h]
theorem ns_nofields {h : Heap} {a : Addr} {m : Str → Option Value} (hn : h.Ns a m) : ∃ o, h.get? a = some o ∧ ∀ vs, o.data ≠ .fields vs := by
  obtain ⟨o, es, ep, ho, hd, _⟩ := hn
  exact ⟨o, ho, fun vs z => by rw [hd] at z; cases z⟩
theorem frames_but {h h2 B : Heap} {C : Addr} : ∀ {l : List Env}, h.FunFrames B l → C ∉ frs l → Heap.SameBut C h h2 → h2.FunFrames B l
  | [], _, _, _ => trivial
  | env :: rest, ⟨hk, ⟨L, o, hf, hn, ho, hd⟩, hr⟩, hC, sb => by
    have hL : L ∈ frs (env :: rest) := List.mem_filterMap.mpr ⟨env, List.mem_cons_self, hf⟩
    exact ⟨hk, ⟨L, o, hf, hn, (sb.2 L fun z => hC (z ▸ hL)).trans ho, hd⟩, frames_but hr (fun hm => hC (by
      obtain ⟨e, he, q⟩ := List.mem_filterMap.mp hm
      exact List.mem_filterMap.mpr ⟨e, List.mem_cons_of_mem _ he, q⟩)) sb⟩
theorem BX.noted {C : Addr} {W : XK} {W' : WX} {u : Value} {s' : Shared} {ce : Env} {Q : Value → Shared → Prop} {acc : Value} (x : BX X σ C W u s') (hs : X.stack = X.env :: X.outer) (hf : X.env.frame = some X.env.locals) (tk : L2N.Takes X W') (hW : ∀ cls d H, W cls d H → W' cls d σ H)
    (hce : ce.frame = X.env.frame) (hC : ce.locals = C) : notedBy (model X.prog X.w) X.A ce (fun e s' => compPostX (model X.prog X.w) X.A X.xe Q acc ce (.error e) s') u s' := by
  obtain ⟨a, B, sI, pins, H', cls, d, rfl, I, nb, up, fl, na, os, ag, w, ⟨m, hm⟩, bC, iC, nfr⟩ := x.ex
  subst hC
  have hfr : X.A.frames = some (X.env :: X.outer) := by rw [I.ok.frames, hs]
  show wpAny (model X.prog X.w) X.A (noteFrame (.ref a) ce) _ _ _
  rw [noteFrame_eq hce]
  rw [hs] at fl
  refine PXN.looks_onZ L2N.Zn.steady hfr hf fl fun h1 hh up1 => ?_
  have n1 : h1.Ns ce.locals m := up1.ns hm
  refine ⟨m, n1, fun h2 sb => ?_⟩
  obtain ⟨oC, eC, nfC⟩ := ns_nofields n1
  obtain ⟨k1, k2, k3, oe, vs, T, oT, ts, he, hz, hd, hv1, hnT, hTe, hT, hdT, h3⟩ := hh
  have neF : ∀ b o vs, h1.get? b = some o → o.data = .fields vs → b ≠ ce.locals := fun b o vs e dd z => by
    rw [z, eC] at e; cases e; exact nfC _ dd
  have k1' : B.StaysIn h2 := fun b o e => (sb.2 b fun z => by rw [z, bC] at e; cases e).trans (k1 b o e)
  have k3' : h2.FunFrames B (X.env :: X.outer) := frames_but k3 (by rw [← hs]; exact nfr) sb
  have t2 : HandSPX.TracedZ h2 B a (L2N.Zn cls d) (rawInt X.env.locals) := ⟨oe, vs, T, oT, ts, (sb.2 a (neF a oe vs he hd)).trans he, hz, hd, hv1, hnT, hTe, (sb.2 T (neF T oT ts hT hdT)).trans hT, hdT, h3⟩
  unfold PySem.passOn
  refine wpAny_bind (wpAny_field ((sb.2 a (neF a oe vs he hd)).trans he) hd hv1 ?_)
  rw [if_neg (show ¬ ((Value.ref T == Value.none) = true) from by simp)]
  have fin : wpAny (model X.prog X.w) X.A (setFlight (.ref a) ce.frame) (fun _ s4 => wpAny (model X.prog X.w) X.A (throw (.ref a) : Sem Value) (fun _ _ => False) X.xe s4) X.xe { s' with heap := h2 } := by
    rw [hce, hf]
    refine HandSPX.setFlight_anyZ (s := { s' with heap := h2 }) (fr := some X.env.locals) k1' k3' t2 fun h4 q1 q2 q3 q4 => wpAny_throw (tk _ _ ?_)
    refine ⟨a, B, sI, pins, σ, H', cls, d, rfl, I, nb, ?_, .inr (.inr (by rw [hs]; exact ⟨q1, k2, q2, q3⟩)), na, os, ag, hW _ _ _ w⟩
    refine Heap.UpToSlots.trans (h₂ := h2) (fun b o e nf => ?_) q4
    obtain ⟨sl, e1⟩ := (up.trans up1) b o e nf
    exact ⟨sl, (sb.2 b fun z => by rw [z, iC] at e; cases e).trans e1⟩
  first
    | exact wpAny_bind (wpAny_pure (wpAny_bind fin))
    | exact wpAny_bind fin

/-- the block's context, its errors wished for at the def's slots σ -/
abbrev blkX (X : Cx) (σ : St) (W : XK) (s : Shared) (H : Hp) (scope : Scope) (ce : Env) (fp : List Addr) : Cx := { X.blk s H scope ce fp with xe := BX X σ ce.locals W }
/-- a call in the block lets an error out -/
theorem BX.of_call {W : XK} {pins : List (Addr × Obj)} {s3 : Shared} {H3 : Hp} {scope : Scope} {ce : Env} {fp : List Addr} {σ' : St} {Hy : Hp} {sy : Shared} {E : XK} {u : Value} {s' : Shared} {pins' : List (Addr × Obj)} (I3 : Inv X pins σ H3 s3) (f3 : ∀ b ∈ fp, FpOk X pins H3 b) (hC : s3.heap.objs.size ≤ ce.locals)
    (I : Inv (blkX X σ W s3 H3 scope ce fp) pins' σ' Hy sy) (hW : ∀ cls d H, E cls d H → W cls d H) (c : L2N.CX X.prog X.w X.stack Hy sy E u s') : BX X σ ce.locals W u s' := by
  obtain ⟨a, B, H', cls, d, rfl, fl, hok, ub, na, os, ag, hE⟩ := c
  have st : B.StaysIn s'.heap := fl.1
  have IY := I.base
  have noC : ∀ b o, s3.heap.get? b = some o → b ≠ ce.locals := fun b o e z => absurd (Nat.lt_of_lt_of_le (Heap.lt_size e) hC) (by rw [z]; exact Nat.lt_irrefl _)
  have nfr : ce.locals ∉ frs X.stack := fun hm => by
    obtain ⟨_, o, e, _⟩ := I3.stack.mem hm
    exact noC _ o e rfl
  obtain ⟨mC, hnC, _⟩ := I.loc
  have hnC : sy.heap.Ns ce.locals mC := hnC
  obtain ⟨oC, eC, nfC⟩ := ns_nofields hnC
  have hCy : Hy ce.locals = none := I.free
  have hC' : H' ce.locals = none := ub.free _ _ eC hCy
  have hBC : B.get? ce.locals = some oC := ub.keep _ _ eC hCy nfr
  obtain ⟨G, g1, g2⟩ := restrict s'.heap fun b => ((B.get? b).isSome || decide (b ∈ frs X.stack)) && decide (b ≠ ce.locals)
  obtain ⟨B2, b1, b2⟩ := restrict B fun b => decide (b ≠ ce.locals)
  have gB : ∀ b o, b ≠ ce.locals → B.get? b = some o → G.get? b = some o := fun b o n e => by
    rw [g1 b (by simp [e, n])]
    exact st b o e
  have gF : ∀ b, b ∈ frs X.stack → G.get? b = s'.heap.get? b := fun b hb => g1 b (by
    have : b ≠ ce.locals := fun z => nfr (z ▸ hb)
    simp [hb, this])
  have og : ∀ b o, G.get? b = some o → s'.heap.get? b = some o ∧ b ≠ ce.locals ∧ ((B.get? b).isSome = true ∨ b ∈ frs X.stack) := fun b o e => by
    cases q : (((B.get? b).isSome || decide (b ∈ frs X.stack)) && decide (b ≠ ce.locals)) with
    | false => rw [g2 b q] at e; cases e
    | true =>
      rw [g1 b q] at e
      simp only [Bool.and_eq_true, Bool.or_eq_true, decide_eq_true_eq] at q
      exact ⟨e, q.2, q.1⟩
  have oB : ∀ b o, B2.get? b = some o → B.get? b = some o ∧ b ≠ ce.locals := fun b o e => by
    cases q : decide (b ≠ ce.locals) with
    | false => rw [b2 b q] at e; cases e
    | true => rw [b1 b q] at e; exact ⟨e, of_decide_eq_true q⟩
  refine ⟨a, B2, { sy with heap := G, gens := s'.gens, drawn := s'.drawn, toks := s'.toks }, pins, H', cls, d, rfl, ?_, fun b o e hb => ?_, Heap.UpToSlots.of_keeps fun b o e => (og b o e).1, ?_, na, os, ag, hW _ _ _ hE, ⟨mC, ?_⟩, b2 _ (by simp), g2 _ (by simp), nfr⟩
  · refine I3.call' (ch := fp) (show sy.os = s3.os from I.os) ⟨fun b o e n hb hx => ?_, fun b o e n hb hx => ?_, fun b o e n hx => ?_, fun b o e hx => ?_, fun b xs e => ub.tups b xs (IY.tups b xs e), fun b o xs e => ub.frzs b o xs (IY.frzs b o xs e), fun b ps e => ?_⟩ ?_ ag fun b hb => let z := f3 b hb; ⟨z.2.2.2.1, z.2.1, z.2.2.2.2.1, z.2.2.2.2.2⟩
    · exact gB b o (noC b o e) (ub.keep b o (IY.keep b o e n hb hx) (IY.free b o e n hx) hb)
    · obtain ⟨sl, e1⟩ := IY.slot b o e n hb hx
      obtain ⟨sl2, e2⟩ := ub.slot b _ e1 hb
      exact ⟨sl2, by rw [gF b hb]; exact e2⟩
    · obtain ⟨o', e1⟩ := IY.there b o e hx
      exact ub.free b o' e1 (IY.free b o e n hx)
    · obtain ⟨o', e1⟩ := IY.there b o e hx
      by_cases hb : b ∈ frs X.stack
      · obtain ⟨sl2, e2⟩ := ub.slot b _ e1 hb
        exact ⟨_, by rw [gF b hb]; exact e2⟩
      · obtain ⟨o2, e2⟩ := ub.there b _ e1 hb
        exact ⟨o2, gB b o2 (noC b o e) e2⟩
    · obtain ⟨m1, e1⟩ := IY.tbls b ps e
      obtain ⟨m2, e2⟩ := ub.tbls b _ e1
      exact ⟨m1 ++ m2, by rw [e2, Array.append_assoc]⟩
    · intro b ob e
      refine (hok b ob e).stay (fun c v hc q => gB c v (fun z => ?_) q) (fun _ q => q) fun _ _ q => q
      rcases hc with z2 | z2
      · rw [← z2, z, hC'] at e; cases e
      · rw [z, hC'] at z2; cases z2
  · obtain ⟨e', n, h⟩ := og b o e
    rcases h with h | h
    · obtain ⟨o', q⟩ := Option.isSome_iff_exists.mp h
      have z := st b o' q
      rw [e'] at z; cases z
      rw [b1 b (by simp [n])]
      exact q
    · exact absurd h hb
  · obtain ⟨k1, k2, k3, oe, vs, T, oT, ts, he, hz, hd, hv1, hnT, hTe, hT, hdT, h3⟩ := fl
    refine ⟨fun b o e => k1 b o (oB b o e).1, ?_, funFrames_none k3 fun L hL => ?_, oe, vs, T, oT, ts, he, hz, hd, hv1, ?_, hTe, hT, hdT, h3⟩
    · cases q : B2.get? a with
      | none => rfl
      | some o => have := (oB a o q).1; rw [k2] at this; cases this
    · cases q : B2.get? L with
      | none => rfl
      | some o => have := (oB L o q).1; rw [(k3.mem hL).1] at this; cases this
    · cases q : B2.get? T with
      | none => rfl
      | some o => have := (oB T o q).1; rw [hnT] at this; cases this
  · obtain ⟨o, es, ep, e1, r⟩ := hnC
    exact ⟨o, es, ep, st _ _ (ub.keep _ o e1 hCy nfr), r⟩
end
end DL

set_option Elab.async false
set_option linter.all false
set_option maxRecDepth 100000
set_option maxHeartbeats 4000000
/-! DL26: a list comprehension out of which an error may come: what it says, its rule. -/
namespace DL
open PySem PySem.Spec L2 StX
open PyProof.Rows hiding St

section
variable {C : Ctx}
def lcLoopX (k : D → M Unit) (c : M Bool) (e : M D) (vs : List Nat) : List D → List D → M (List D)
  | [], acc => afterM vs (pureM acc)
  | x :: r, acc => goG (k x) (bindM c fun b => if b = true then (bindM e fun y => pushM acc y fun acc' => afterM vs (lcLoopX k c e vs r acc')) else afterM vs (lcLoopX k c e vs r acc))
def lcXM (src : M (List D)) (k : D → M Unit) (c : M Bool) (e : M D) (vs : List Nat) : M (List D) := bindM src fun xs => afterM vs (lcLoopX k c e vs xs [])
abbrev Ctx.w (C : Ctx) (W : XK) : Ctx := { C with E := fun _ => W }
theorem Sat.turnX {t : TE} {f : M D} {σ0 : St} (h : Sat (C.w (C.E σ0)) t f) {N : An} {σ : St} {H B B0 : Hp} {g : Sg} {p : Addr} {o : HO} (R : Rep C N σ H B g) (hH : H p = some o) (hB : B p = none) (h0 : N.H0 p = none) (hs : ∀ j : Nat, ownAt g.sl j → σ[j]? ≠ some (some (.ref p)))
    {β : Type} {k : D → M β} {P : Res β → Prop} (hb : ¬ P .bad) (hx : ∀ n ct, P (.exc n ct) → ∀ cl H' B', Rep C N σ0 H' B' ⟨List.replicate σ0.length Slot.no, ct⟩ → C.mg n = some (.ref cl) → C.E σ0 (.ref cl) none H') {Q : VK} (hf : P (bindM f k g))
    (hk : ∀ d g' v H' B', Rep C N σ H' B' g' → Le B B' → Rp C.K B' v d → H' p = some o → B' p = none → (∀ j : Nat, ownAt g'.sl j → σ[j]? ≠ some (some (.ref p))) → P (k d g') → Q v H') : t σ H Q := by
  refine h ⟨upd N.H0 p o, N.B0⟩ σ H B g Q ((R.anchor hH hB h0 hs).chE _) ?_
  have hf : P ((f g).bind k) := hf
  cases e : f g with
  | ok d g' =>
    rw [e] at hf
    intro v H' B' R' L rp
    obtain ⟨R2, e1, e2, e3⟩ := (R'.chE C.E).unanchor h0 (R.b0 hB) fun c hc => R.stne hc h0
    exact hk d g' v H' B' R2 L rp e1 e2 e3 hf
  | exc n ct =>
    rw [e] at hf
    intro cl H' B' R' hm
    obtain ⟨R2, e1, e2, e3⟩ := (R'.chE C.E).unanchor h0 (R.b0 hB) fun c hc => R.stne hc h0
    exact hx n ct hf cl H' B' (R2.bare2 rfl) hm
  | bad => rw [e] at hf; exact (hb hf).elim
theorem SatT.turnX {t : TT} {f : M Bool} {σ0 : St} (h : SatT (C.w (C.E σ0)) t f) {N : An} {σ : St} {H B B0 : Hp} {g : Sg} {p : Addr} {o : HO} (R : Rep C N σ H B g) (hH : H p = some o) (hB : B p = none) (h0 : N.H0 p = none) (hs : ∀ j : Nat, ownAt g.sl j → σ[j]? ≠ some (some (.ref p)))
    {β : Type} {k : Bool → M β} {P : Res β → Prop} (hb : ¬ P .bad) (hx : ∀ n ct, P (.exc n ct) → ∀ cl H' B', Rep C N σ0 H' B' ⟨List.replicate σ0.length Slot.no, ct⟩ → C.mg n = some (.ref cl) → C.E σ0 (.ref cl) none H') {Q : Bool → Hp → Prop} (hf : P (bindM f k g))
    (hk : ∀ d g' H' B', Rep C N σ H' B' g' → Le B B' → H' p = some o → B' p = none → (∀ j : Nat, ownAt g'.sl j → σ[j]? ≠ some (some (.ref p))) → P (k d g') → Q d H') : t σ H Q := by
  refine h ⟨upd N.H0 p o, N.B0⟩ σ H B g Q ((R.anchor hH hB h0 hs).chE _) ?_
  have hf : P ((f g).bind k) := hf
  cases e : f g with
  | ok d g' =>
    rw [e] at hf
    intro H' B' R' L
    obtain ⟨R2, e1, e2, e3⟩ := (R'.chE C.E).unanchor h0 (R.b0 hB) fun c hc => R.stne hc h0
    exact hk d g' H' B' R2 L e1 e2 e3 hf
  | exc n ct =>
    rw [e] at hf
    intro cl H' B' R' hm
    obtain ⟨R2, e1, e2, e3⟩ := (R'.chE C.E).unanchor h0 (R.b0 hB) fun c hc => R.stne hc h0
    exact hx n ct hf cl H' B' (R2.bare2 rfl) hm
  | bad => rw [e] at hf; exact (hb hf).elim
theorem SatG.chE {ts : List Nat} {tg : TG} {k : D → M Unit} {E' : St → XK} (h : SatG { C with E := E' } ts tg k) {N : An} {v : V} {d : D} {σ : St} {H B : Hp} {g : Sg} {p : Addr} {o : HO} (R : Rep C N σ H B g) (rp : Rp C.K B v d) (hH : H p = some o) (hB : B p = none) (h0 : N.H0 p = none) (hs : ∀ j : Nat, ownAt g.sl j → σ[j]? ≠ some (some (.ref p)))
    {β : Type} {f : M β} {P : Res β → Prop} (hb : ¬ P .bad) {Q : St → Hp → Prop} (hf : P (goG (k d) f g))
    (hk : ∀ g' σ' H' B', Rep C N σ' H' B' g' → Le B B' → σ'.length = σ.length → (∀ j, j ∉ ts → σ'[j]? = σ[j]?) → H' p = some o → B' p = none → (∀ j : Nat, ownAt g'.sl j → σ'[j]? ≠ some (some (.ref p))) → P (f g') → Q σ' H') : tg v σ H Q := by
  refine h ⟨upd N.H0 p o, N.B0⟩ v σ H B g d _ ((R.anchor hH hB h0 hs).chE _) rp ?_
  unfold goG at hf
  cases e : k d g with
  | ok x g' =>
    rw [e] at hf
    intro σ' H' B' R' L l1 l2
    obtain ⟨R2, e1, e2, e3⟩ := (R'.chE C.E).unanchor h0 (R.b0 hB) fun c hc => R.stne hc h0
    exact hk g' σ' H' B' R2 L l1 l2 e1 e2 e3 hf
  | exc n ct => rw [e] at hf; exact (hb hf).elim
  | bad => rw [e] at hf; exact (hb hf).elim
def tLcX (E : St → XK) (wi : TI) (g : XK → TG) (tt : XK → TT) (te : XK → TE) (vs : List Nat) : TE := fun σ H Q => tLc wi (g (E σ)) (tt (E σ)) (te (E σ)) vs σ H Q
theorem satF_lcX {wi : TI} {tg : XK → TG} {tt : XK → TT} {te : XK → TE} {vs ts : List Nat} {src : M (List D)} {k : D → M Unit} {c : M Bool} {e : M D} (hs : SatI C wi src) (hg : ∀ W, SatG (C.w W) ts (tg W) k) (hc : ∀ W, SatT (C.w W) (tt W) c) (he : ∀ W, Sat (C.w W) (te W) e) (hv : ∀ j, j ∈ ts → j ∈ vs) :
    SatF C (tLcX C.E wi tg tt te vs) (lcXM src k c e vs) := by
  intro N σ H B g Q R q
  refine hs N σ H B g _ R ?_
  have q : FinF C N σ B ((src g).bind fun xs => afterM vs (lcLoopX k c e vs xs [])) Q := q
  cases es : src g with
  | exc n ct => rw [es] at q; exact q
  | bad => rw [es] at q; exact q.elim
  | ok xs g1 =>
    rw [es] at q
    intro J H1 B1 R1 L1 W p hp
    have h0 : N.H0 p = none := R1.fresh hp
    have wl : (wipe σ vs).length = σ.length := wipe_length σ vs
    have em : (σ.map fun _ => Slot.no) = List.replicate σ.length Slot.no := List.map_const' ..
    have hx : ∀ n ct, FinF C N σ B (.exc n ct) Q → ∀ cl H' B', Rep C N σ H' B' ⟨List.replicate σ.length Slot.no, ct⟩ → C.mg n = some (.ref cl) → C.E σ (.ref cl) none H' := fun n ct z cl H' B' R' hm => z cl H' B' (by rw [em]; exact R') hm
    have S0 : LcS C N (wipe σ vs) p B1 (upd H1 p (.lst [])) B1 (g1.forget vs) [] := by
      have R2 := (R1.newl (o := .lst []) hp).wipe vs
      refine ⟨R2, .refl _, fun j hj => ?_, R1.sub_none hp, [], upd_same, .nil⟩
      obtain ⟨a, b⟩ := ownAt_forget hj
      rw [wipe_off a]; exact R1.free_own hp j b
    refine ⟨fun i m H' => ∃ B' g' acc, i ≤ xs.length ∧ m = xs.length - i ∧ LcS C N (wipe σ vs) p B1 H' B' g' acc ∧ FinF C N σ B (lcLoopX k c e vs (xs.drop i) acc g') Q, ⟨xs.length, B1, g1.forget vs, [], Nat.zero_le _, rfl, S0, q⟩, ?_⟩
    rintro i m H2 ⟨B2, g2, acc, hi, rfl, S, q2⟩
    obtain ⟨R2, L2, o2, n2, av, hH2, ra⟩ := id S
    by_cases hlt : i < xs.length
    · have hd : xs.drop i = xs[i] :: xs.drop (i + 1) := List.drop_eq_getElem_cons hlt
      rw [hd] at q2
      refine .inr ⟨W.go i H2 hlt (fun a o z => R2.sub a o (L2 a o z)), fun H' => ∃ B' g' acc, LcS C N (wipe σ vs) p B1 H' B' g' acc ∧ FinF C N σ B (lcLoopX k c e vs (xs.drop (i + 1)) acc g') Q, fun H' ⟨B', g', acc', z1, z2⟩ => ⟨_, Nat.sub_lt_sub_left hlt (Nat.lt_succ_self i), B', g', acc', hlt, rfl, z1, z2⟩, fun x H3 y => ?_⟩
      obtain ⟨B3, G, rp⟩ := W.yld i H2 x H3 B2 xs[i] y (by simp [hlt]) L2 R2.sub
      have R3 := R2.grow G
      have hH3 : H3 p = some (.lst av) := G.h _ _ hH2
      have n3 : B3 p = none := G.apart n2 hH2
      refine (hg (C.E σ)).chE (P := fun x => FinF C N σ B x Q) R3 rp hH3 n3 h0 o2 (fun z => z) q2 fun g4 σ4 H4 B4 R4 L4 l4 e4 hH4 n4 o4 q4 => ?_
      have off : ∀ j : Nat, j ∉ vs → σ4[j]? = σ[j]? := fun j hj => (e4 j fun z => hj (hv j z)).trans (wipe_off hj)
      have len4 : σ4.length = σ.length := l4.trans wl
      refine ⟨wipe_eq vs len4 off, ?_⟩
      have off' : ∀ j : Nat, j ∉ vs → (wipe σ vs)[j]? = σ4[j]? := fun j hj => (wipe_off hj).trans (off j hj).symm
      have len4' : (wipe σ vs).length = σ4.length := wl.trans len4.symm
      refine (hc (C.E σ)).turnX (B0 := B) (P := fun x => FinF C N σ B x Q) R4 hH4 n4 h0 o4 (fun z => z) hx q4 fun b g5 H5 B5 R5 L5 hH5 n5 o5 q5 => ?_
      have LL : Le B2 B5 := (G.b.trans L4).trans L5
      cases b with
      | false =>
        exact ⟨B5, _, acc, (LcS.mk R5 (L2.trans LL) o5 n5 ⟨av, hH5, ra.le LL⟩).back vs len4' off', q5⟩
      | true =>
        refine (he (C.E σ)).turnX (B0 := B) (P := fun x => FinF C N σ B x Q) R5 hH5 n5 h0 o5 (fun z => z) hx q5 fun d g6 v H6 B6 R6 L6 rp6 hH6 n6 o6 q6 => ?_
        unfold pushM at q6
        by_cases hz : acc.length < sizeLine
        · rw [if_pos hz] at q6
          refine ⟨av, hH6, by rw [ra.length]; exact hz, B6, _, acc ++ [d], ?_, q6⟩
          exact (LcS.push R6 ((L2.trans LL).trans L6) o6 n6 h0 (ra.le (LL.trans L6)) rp6).back vs len4' off'
        · rw [if_neg hz] at q6; exact q6.elim
    · have hi' : i = xs.length := by omega
      subst hi'
      rw [List.drop_length] at q2
      exact .inl ⟨W.stop H2 (fun a o z => R2.sub a o (L2 a o z)), S.fin wl.symm (fun j hj => (wipe_off hj).symm) h0 L1 q2⟩
end

/-! ### the rule -/
section
variable {X : Cx}
theorem pe_lcX {E : St → XK} {elt tg iter : Expr} {ifs : List Expr} {scope : Scope} {own : List (Str × Nat)} {pos : Pos} {wi : TI} {g : XK → TG} {tt : XK → TT} {te : XK → TE} (hst : X.stack = X.env :: X.outer) (hfr : X.env.frame = some X.env.locals) (tk : L2N.Takes X (wx E)) (hc : X.calm = true) (hN : X.N.Nodup) (hi : PI X tg iter wi) (ok : BlkOk X.N X.env.scope scope own)
    (hb : ∀ (σ : St) (s : Shared) (H : Hp) (C : Addr) (cl : List (Str × Addr)) (fp : List Addr), (∀ σ', PassesAt (L2N.CX X.prog X.w) (blkX X σ (E σ) s H scope (compEnvC scope cl C X.env) fp) σ' (E σ)) →
      PG (blkX X σ (E σ) s H scope (compEnvC scope cl C X.env) fp) tg (g (E σ)) ∧ PTs (blkX X σ (E σ) s H scope (compEnvC scope cl C X.env) fp) ifs (tt (E σ)) ∧ PE (blkX X σ (E σ) s H scope (compEnvC scope cl C X.env) fp) elt (te (E σ)))
    (hs : ∀ x, foldedSetIterable iter X.env x = pure x := by intro _; rfl) : PE X (.ListComp elt [⟨tg, iter, ifs, 0⟩] scope pos) (tLcX E wi g tt te (own.map (·.2))) := by
  refine ⟨fun pins s σ H Q I h => ?_⟩
  rw [eval_ListComp]
  have h : tLc wi (g (E σ)) (tt (E σ)) (te (E σ)) (own.map (·.2)) σ H Q := h
  have hfree : ∀ y ∈ scope.names, y.2 = .free → ∃ c, X.env.cells.lookup y.1 = some c := fun y hy e => (ok.free y hy e).elim (fun k => I.ok.has _ (.inl k)) fun k => I.ok.has _ (.inr k)
  refine comprehension_x rfl hs (closure_ok hfree) ok.kind (fun y hy e => by rw [ok.uniq y hy, e]) (thn (hi.run pins s σ H _ I h) fun xv s1 hx => thn hx fun itv s2 h2 => ?_)
  obtain ⟨it, fp, tn, J, H2, rfl, I2, T, st2, f2, q⟩ := h2
  refine wpAny_newObj_type (newEnv_comp ?_) (by show 0 ≤ sizeLine; decide)
  have hDn : H2 s2.heap.objs.size = none := I2.hok.fresh (Nat.le_refl _)
  obtain ⟨W, ⟨m0, w0⟩, turn⟩ := q _ hDn
  have I3 : Inv X pins σ (upd H2 s2.heap.objs.size (.lst [])) { s2 with heap := s2.heap.push { cls := .type "list", data := .seq ([] : List Value).toArray } } :=
    I2.laid (t' := s2.toks) (fun b o e => Heap.get?_push_of_some _ e) (Nat.le_refl _) ⟨Nat.zero_le _, [], 0, .nil, Heap.get?_push_size _ rfl⟩
  have old : ∀ b ∈ fp, b < s2.heap.objs.size := fun b hb => let ⟨_, e, _⟩ := T.obj _ _ st2 b hb; Heap.lt_size e
  generalize hD : s2.heap.objs.size = D at *
  generalize hs3 : ({ s2 with heap := s2.heap.push { cls := .type "list", data := .seq ([] : List Value).toArray } } : Shared) = s3 at *
  have h3 : s3.heap = s2.heap.push { cls := .type "list", data := .seq ([] : List Value).toArray } := by rw [← hs3]
  have f3 : ∀ b ∈ fp, FpOk X pins (upd H2 D (.lst [])) b ∧ b < s3.heap.objs.size := fun b hb => by
    have lt := old b hb
    exact ⟨⟨(upd_ne (Nat.ne_of_lt lt)).trans (f2 b hb).1, (f2 b hb).2⟩, by rw [h3, Heap.size_push, hD]; exact Nat.lt_succ_of_lt lt⟩
  have st3 : tn 0 s3.heap := T.keep _ _ _ st2 fun b _ o e => by rw [h3]; exact Heap.get?_push_of_some _ e
  have I40 := block_start I3 ok hN f3
  have hall := hb σ s3 (upd H2 D (.lst [])) s3.heap.objs.size (cellsFrom (s3.heap.objs.size + 1) scope.names (cloFrom X.env.cells scope.names [])) fp
  have nfp : ∀ b ∈ fp, (upd H2 D (.lst [])) b = none := fun b hb => (f3 b hb).1.1
  show codeAny _ _ (.compStart (.ListComp elt [⟨tg, iter, ifs, 0⟩] scope pos) 0 (.ref it) (.ref D) (compEnvC scope (cellsFrom (s3.heap.objs.size + 1) scope.names (cloFrom X.env.cells scope.names [])) s3.heap.objs.size X.env)) (compPostX (model X.prog X.w) X.A X.xe (EP X pins σ Q) (.ref D) (compEnvC scope (cellsFrom (s3.heap.objs.size + 1) scope.names (cloFrom X.env.cells scope.names [])) s3.heap.objs.size X.env)) { s3 with heap := pushCells (s3.heap.push { cls := .type "dict", data := .dict #[] }) scope.names }
  generalize hce : compEnvC scope (cellsFrom (s3.heap.objs.size + 1) scope.names (cloFrom X.env.cells scope.names [])) s3.heap.objs.size X.env = ce at I40 hall ⊢
  have cL : ce.locals = s3.heap.objs.size := by subst hce; rfl
  have cF : ce.frame = X.env.frame := by subst hce; rfl
  generalize hH3 : upd H2 D (.lst []) = H3 at I3 I40 hall w0 nfp f3
  generalize hs4 : ({ s3 with heap := pushCells (s3.heap.push { cls := .type "dict", data := .dict #[] }) scope.names } : Shared) = s4 at I40 ⊢
  have st4 : tn 0 s4.heap := T.keep _ _ _ st3 fun b _ o e => by rw [← hs4]; exact pushCells_keeps _ _ _ _ (Heap.get?_push_of_some _ e)
  have I4 : Inv (blkX X σ (E σ) s3 H3 scope ce fp) [] (wipe σ (own.map (·.2))) H3 s4 := I40.wish _
  obtain ⟨pg, pt, pe⟩ := hall fun σ' pins' Hy sy u s' Iy c => BX.of_call I3 (fun b hb => (f3 b hb).1) (by rw [cL]; exact Nat.le_refl _) Iy (fun _ _ _ z => z) c
  have cells : ∀ {σ' : St} {H' : Hp} {s' : Shared}, Inv (blkX X σ (E σ) s3 H3 scope ce fp) [] σ' H' s' → (∀ b ∈ fp, H' b = none) → ∀ b ∈ fp, FpOk (blkX X σ (E σ) s3 H3 scope ce fp) [] H' b := fun {σ' H' s'} I' hn => blk_cells (X := X) (s := s3) (H := H3) (scope := scope) (ce := ce) I'.unwish hn
  have thnB : ∀ {α : Type} {t : Sem α} {Q1 Q2 : α → Shared → Prop} {s : Shared}, wpAny (model X.prog X.w) X.A t Q1 (BX X σ ce.locals (E σ)) s → (∀ a s, Q1 a s → Q2 a s) → wpAny (model X.prog X.w) X.A t Q2 (notedBy (model X.prog X.w) X.A ce fun e s' => compPostX (model X.prog X.w) X.A X.xe (EP X pins σ Q) (.ref D) ce (.error e) s') s := by
    intro α t Q1 Q' s hq hQ
    exact wpAny_mono hq hQ fun u s' x => x.noted hst hfr tk (fun _ _ _ z => z) cF rfl
  have loop : codeAny (model X.prog X.w) X.A (.compLoop (.ListComp elt [⟨tg, iter, ifs, 0⟩] scope pos) 0 (.ref it) (.ref D) ce) (compPostX (model X.prog X.w) X.A X.xe (EP X pins σ Q) (.ref D) ce) s4 := by
    refine compLoop_any (fun n s' => ∃ i H', Inv (blkX X σ (E σ) s3 H3 scope ce fp) [] (wipe σ (own.map (·.2))) H' s' ∧ tn i s'.heap ∧ (∀ b ∈ fp, H' b = none) ∧ W i n H') ?_ m0 ⟨0, H3, I4, st4, nfp, w0⟩
    rintro n s5 ⟨i, H5, I5, st5, n5, w5⟩
    rcases turn i n H5 w5 with ⟨stop, qq⟩ | ⟨go, Nx, hNx, step⟩
    · refine thnF (T.done (blkX X σ (E σ) s3 H3 scope ce fp) rfl rfl rfl hc i [] s5 _ H5 (fun _ _ => False) I5 (cells I5 n5) st5 stop) fun r s6 ⟨hr, I6⟩ => ?_
      subst hr
      have I7 : Inv X pins σ H5 s6 := I3.call' (ch := fp) I6.os I6.base I6.hok I6.bare fun b hb => let z := (f3 b hb).1; ⟨z.2.2.2.1, z.2.1, z.2.2.2.2.1, z.2.2.2.2.2⟩
      have nC : H5 s3.heap.objs.size = none := cL ▸ (show H5 ce.locals = none from I6.free)
      obtain ⟨m, hn, _⟩ := I6.loc
      obtain ⟨f0, f1, f2', f3', f4, f5⟩ := I3.fpOk (Nat.le_refl _) nC
      exact ⟨m, hn, fun h'' sb => ⟨.ref D, H5, I7.turned (t' := s6.toks) (fun b o hb e => (sb.2 b (by rw [cL]; exact hb)).trans e) f0 f1 f3' f4 f5, rfl, qq⟩⟩
    · refine thnF (T.item (blkX X σ (E σ) s3 H3 scope ce fp) rfl rfl rfl hc i [] s5 _ H5 (fun _ _ => False) I5 (cells I5 n5) st5 go) fun r s6 ⟨u, hr, h6⟩ => ?_
      subst hr
      refine thnF h6 fun _ s7 ⟨x, H7, I7, r7, y7, st7, n7⟩ => ?_
      refine thnB (pg.run _ s7 _ H7 x u _ (I7.pinned (cells I7 n7) (T.obj _ _ st7)) r7 (step x H7 y7)) fun _ s8 ⟨σ8, H8, I8, hw8, q8⟩ => ?_
      refine thnB (pt.run _ s8 σ8 H8 _ I8 q8) fun b s9 ⟨H9, I9, q9⟩ => ?_
      have fin : ∀ {s' : Shared} {H' : Hp}, Inv (blkX X σ (E σ) s3 H3 scope ce fp) ([] ++ pinsAt fp s7.heap) σ8 H' s' → Nx H' → ∃ m, m < n ∧ ∃ i H', Inv (blkX X σ (E σ) s3 H3 scope ce fp) [] (wipe σ (own.map (·.2))) H' s' ∧ tn i s'.heap ∧ (∀ b ∈ fp, H' b = none) ∧ W i m H' := fun {s' H'} I' nx => by
        obtain ⟨m', hm, w'⟩ := hNx H' nx
        have pin' : ∀ b ∈ fp, ∀ o, s7.heap.get? b = some o → s'.heap.get? b = some o ∧ H' b = none := fun b hb o e =>
          let z := I'.pin (b, o) (List.mem_append_right _ (List.mem_append_right _ (mem_pinsAt hb e)))
          ⟨z.1, z.2.1⟩
        refine ⟨m', hm, i + 1, H', (I'.unpinned (pins := [])).weak (by rw [← hw8, wipe_length]) (fun j v e => (wipe_some (hw8 ▸ e)).1), T.keep _ _ _ st7 fun b hb o e => (pin' b hb o e).1, fun b hb => ?_, w'⟩
        obtain ⟨o, e, _⟩ := T.obj _ _ st7 b hb
        exact (pin' b hb o e).2
      cases b with
      | false =>
        rw [if_neg Bool.false_ne_true] at q9 ⊢
        exact fin I9 q9
      | true =>
        rw [if_pos rfl] at q9 ⊢
        refine thnB (pe.run _ s9 σ8 H9 _ I9 q9) fun z s10 ⟨yv, H10, I10, r10, acc, hD10, hz10, nx⟩ => ?_
        exact thnB (app_ok (X := blkX X σ (E σ) s3 H3 scope ce fp) (Q := fun _ s11 => ∃ m, m < n ∧ ∃ i H', Inv (blkX X σ (E σ) s3 H3 scope ce fp) [] (wipe σ (own.map (·.2))) H' s11 ∧ tn i s11.heap ∧ (∀ b ∈ fp, H' b = none) ∧ W i m H') I10 hD10 hz10 r10 fun s11 I11 => fin I11 nx) fun _ _ z => z
  exact codeAny_compStart_list loop (T.self X.A 0 _ _ _ st4 loop)
end
section
variable {X : Cx} {s : Option StC} {E : St → XK}
theorem flcX {elt tg iter : Expr} {ifs : List Expr} {scope : Scope} {pos : Pos} {ts : List Nat} {src : M (List D)} {kk : D → M Unit} {cc : M Bool} {ee : M D} (own : List (Str × Nat)) (hst : X.stack = X.env :: X.outer) (hfr : X.env.frame = some X.env.locals) (tk : L2N.Takes X (wx E)) (hc : X.calm = true) (hN : X.N.Nodup) (ok : BlkOk X.N X.env.scope scope own) (hi : DI (cx X s E) X tg iter src)
    (hb : ∀ (W : XK) (xe : Value → Shared → Prop) (s0 : Shared) (H : Hp) (C : Addr) (cl : List (Str × Addr)) (fp : List Addr), (∀ σ', PassesAt (L2N.CX X.prog X.w) { X.blk s0 H scope (compEnvC scope cl C X.env) fp with xe := xe } σ' ((fun _ => W : St → XK) σ')) →
      DG (cx X s fun _ => W) { X.blk s0 H scope (compEnvC scope cl C X.env) fp with xe := xe } tg ts kk ∧ DTs (cx X s fun _ => W) { X.blk s0 H scope (compEnvC scope cl C X.env) fp with xe := xe } ifs cc ∧ DE (cx X s fun _ => W) { X.blk s0 H scope (compEnvC scope cl C X.env) fp with xe := xe } elt ee)
    (hv : ∀ j, j ∈ ts → j ∈ own.map (·.2) := by decide) (hs : ∀ x, foldedSetIterable iter X.env x = pure x := by intro _; rfl) :
    DF (cx X s E) X (.ListComp elt [⟨tg, iter, ifs, 0⟩] scope pos) (lcXM src kk cc ee (own.map (·.2))) :=
  dF (pe_lcX (g := fun W => toG (cx X s fun _ => W) ts kk) (tt := fun W => toT (cx X s fun _ => W) cc) (te := fun W => toE (cx X s fun _ => W) ee) hst hfr tk hc hN hi ok (fun σ s0 H C cl fp hx => hb (E σ) _ s0 H C cl fp hx) hs) (satF_lcX (C := cx X s E) sI (fun W => sG) (fun W => sT) (fun W => sE) hv)
end
end DL

set_option Elab.async false
set_option linter.all false
set_option maxRecDepth 100000
set_option maxHeartbeats 4000000
/-! DL27: how a mirror is evaluated. -/
namespace DL
open PySem PySem.Spec L2

section
variable {g g1 g2 : Sg}
theorem ev_bind {α β : Type} {f : M α} {k : α → M β} {a : α} {r : Res β} (h : f g = .ok a g1) (h2 : k a g1 = r) : bindM f k g = r := by
  show (f g).bind k = r
  rw [h]; exact h2
theorem ev_next {f k : M Fl} {r : Res Fl} (h : f g = .ok .next g1) (h2 : k g1 = r) : seqM f k g = r := ev_bind h h2
theorem ev_stop {f k : M Fl} {fl : Fl} (h : f g = .ok fl g1) (h2 : fl ≠ .next) : seqM f k g = .ok fl g1 := by
  refine ev_bind h ?_
  cases fl <;> first | exact (h2 rfl).elim | rfl
theorem ev_exc {f k : M Fl} {n : Str} {ct : Int} (h : f g = .exc n ct) : seqM f k g = .exc n ct := by
  show (f g).bind _ = _
  rw [h]; rfl
theorem ev_ifT {α : Type} {c : M Bool} {f k : M α} {r : Res α} (h : c g = .ok true g1) (h2 : f g1 = r) : ifM c f k g = r := ev_bind h h2
theorem ev_ifF {α : Type} {c : M Bool} {f k : M α} {r : Res α} (h : c g = .ok false g1) (h2 : k g1 = r) : ifM c f k g = r := ev_bind h h2
theorem ev_if {α : Type} {c : M Bool} {f k : M α} {r : Res α} {b : Bool} (h : c g = .ok b g1) (h1 : b = true → f g1 = r) (h2 : b = false → k g1 = r) : ifM c f k g = r := by
  cases b with
  | true => exact ev_ifT h (h1 rfl)
  | false => exact ev_ifF h (h2 rfl)
theorem ev_for {src : M (List D)} {k : D → M Unit} {body : M Fl} {xs : List D} {r : Res Fl} (h : src g = .ok xs g1) (h2 : forM xs k body g1 = r) : forS src k body g = r := ev_bind h h2
theorem ev_ret {f : M D} {d : D} (h : f g = .ok d g1) : retM f g = .ok (.ret d) g1 := ev_bind h rfl
theorem ev_asg {f : M D} {k : D → M Unit} {d : D} (h : f g = .ok d g1) (h2 : k d g1 = .ok () g2) : asgM f k g = .ok .next g2 := by
  refine ev_bind h ?_
  unfold goG
  rw [h2]; rfl
theorem ev_op2 {h : D → D → Option D} {f k : M D} {x y z : D} (h1 : f g = .ok x g1) (h2 : k g1 = .ok y g2) (h3 : h x y = some z) : op2 h f k g = .ok z g2 := ev_bind h1 (ev_bind h2 (by unfold liftO; rw [h3]))
theorem ev_op1 {h : D → Option D} {f : M D} {x z : D} (h1 : f g = .ok x g1) (h3 : h x = some z) : op1 h f g = .ok z g1 := ev_bind h1 (by unfold liftO; rw [h3])
theorem ev_opN {h : List D → Option D} {f : M (List D)} {xs : List D} {z : D} (h1 : f g = .ok xs g1) (h3 : h xs = some z) : opN h f g = .ok z g1 := ev_bind h1 (by unfold liftO; rw [h3])
theorem ev_app {i : Nat} {f : M D} {xs xs' : List D} {d : D} (h0 : g.sl[i]? = some (.own xs)) (h : f g = .ok d g1) (h2 : g1.sl[i]? = some (.own xs')) (hz : xs'.length < sizeLine) : appM i f g = .ok .next { g1 with sl := g1.sl.set i (.own (xs' ++ [d])) } := by
  unfold appM
  simp only [h0]
  refine ev_bind h ?_
  simp only [h2, if_pos hz]
theorem eqv_int (i j : Int) : eqD (.int i) (.int j) = some (.bool (i == j)) := rfl
end
theorem small (n : Nat) (h : n ≤ 1000000) : n < sizeLine := Nat.lt_of_le_of_lt h (by decide)

/-! ### the stream's def -/
def isI (xs : List D) : Prop := ∃ ns : List Int, xs = ns.map PyData.int
end DL

set_option Elab.async false
set_option linter.all false
set_option maxRecDepth 100000
set_option maxHeartbeats 4000000
/-! DL28: every script has its stream. -/
namespace DL
open PySem PySem.Spec L2

/-- the state of the stream's def: the list, the turn's number, what is left of it, what is stirred -/
def Ss (xs : List Int) (c r k t : Slot) : Sg := ⟨[.no, .own (xs.map PyData.int), c, r, k, t], 0⟩
theorem app_int {xs : List Int} {n : Int} : (xs.map PyData.int) ++ [PyData.int n] = (xs ++ [n]).map PyData.int := by simp
def body1 : M Fl := (seqM (appM 1 (op2 modD (opN intD (consM (getM 3) (pureM []))) (pureM (.int 1009))))
  (seqM (asgM (op2 fdivD (getM 3) (pureM (.int 1009))) (putM 3))
  (seqM (ifM (asB (op2 eqD (getM 3) (pureM (.int 0))))
  (seqM (pureM .brk)
  nextM)
  nextM)
  nextM)))
def body2 : M Fl := (seqM (asgM (op2 modD (opN intD (consM (op2 addD (op2 addD (op2 mulXD (getM 5) (pureM (.int 48271))) (op2 mulXD (pureM (.int 7)) (getM 4))) (pureM (.int 11))) (pureM []))) (pureM (.int 2147483647))) (putM 5))
  (seqM (appM 1 (op2 modD (op2 modD (opN intD (consM (op2 addD (op2 mulXD (getM 5) (pureM (.int 69621))) (getM 4)) (pureM []))) (pureM (.int 2147483629))) (pureM (.int 1009))))
  nextM))
theorem step1 (xs : List Int) (c k t : Slot) (r : Int) (x : D) (h : xs.length ≤ 5000) : goG (putM 4 x) body1 (Ss xs c (.dat (.int r)) k t) =
    .ok (if r.fdiv 1009 = 0 then .brk else .next) (Ss (xs ++ [r.fmod 1009]) c (.dat (.int (r.fdiv 1009))) (.dat x) t) := by
  show body1 (Ss xs c (.dat (.int r)) (.dat x) t) = _
  refine ev_next (g1 := Ss (xs ++ [r.fmod 1009]) c (.dat (.int r)) (.dat x) t) ?_ ?_
  · have := ev_app (i := 1) (g := Ss xs c (.dat (.int r)) (.dat x) t) (f := op2 modD (opN intD (consM (getM 3) (pureM []))) (pureM (.int 1009))) rfl rfl rfl (by rw [List.length_map]; exact small _ (by omega))
    rw [this]
    show Res.ok Fl.next (⟨[.no, .own (xs.map PyData.int ++ [.int (r.fmod 1009)]), c, .dat (.int r), .dat x, t], 0⟩ : Sg) = _
    rw [app_int]
    rfl
  · refine ev_next (g1 := Ss (xs ++ [r.fmod 1009]) c (.dat (.int (r.fdiv 1009))) (.dat x) t) rfl ?_
    by_cases e : r.fdiv 1009 = 0
    · rw [if_pos e]
      refine ev_stop (ev_ifT (g1 := Ss (xs ++ [r.fmod 1009]) c (.dat (.int (r.fdiv 1009))) (.dat x) t) ?_ rfl) (fun z => nomatch z)
      show Res.ok (r.fdiv 1009 == 0) _ = _
      rw [e]; rfl
    · rw [if_neg e]
      refine ev_next (ev_ifF (g1 := Ss (xs ++ [r.fmod 1009]) c (.dat (.int (r.fdiv 1009))) (.dat x) t) ?_ rfl) rfl
      show Res.ok (r.fdiv 1009 == 0) _ = _
      rw [show (r.fdiv 1009 == 0) = false from beq_false_of_ne e]
theorem mul_r {i j : Int} (h : smallI j = true) : mulXD (.int i) (.int j) = some (.int (i * j)) := by
  show (if (smallI i || smallI j) = true then some (PyData.int (i * j)) else none) = _
  rw [h, Bool.or_true, if_pos rfl]
theorem step2 (xs : List Int) (c r : Slot) (k0 : Slot) (t k : Int) (h : xs.length ≤ 5000) : ∃ n t' : Int, goG (putM 4 (.int k)) body2 (Ss xs c r k0 (.dat (.int t))) = .ok .next (Ss (xs ++ [n]) c r (.dat (.int k)) (.dat (.int t'))) := by
  refine ⟨((((t * 48271 + 7 * k + 11).fmod 2147483647) * 69621 + k).fmod 2147483629).fmod 1009, ((t * 48271 + 7 * k + 11).fmod 2147483647), ?_⟩
  show body2 (Ss xs c r (.dat (.int k)) (.dat (.int t))) = _
  generalize ht : (t * 48271 + 7 * k + 11).fmod 2147483647 = t'
  refine ev_next (g1 := Ss xs c r (.dat (.int k)) (.dat (.int t'))) ?_ (ev_next (g1 := Ss (xs ++ [((t' * 69621 + k).fmod 2147483629).fmod 1009]) c r (.dat (.int k)) (.dat (.int t'))) ?_ rfl)
  · rw [← ht]
    exact ev_asg (ev_op2 (ev_opN (ev_bind (ev_op2 (ev_op2 (ev_op2 rfl rfl (mul_r (by decide))) rfl rfl) rfl rfl) rfl) rfl) rfl rfl) rfl
  · have := ev_app (i := 1) (g := Ss xs c r (.dat (.int k)) (.dat (.int t'))) (f := op2 modD (op2 modD (opN intD (consM (op2 addD (op2 mulXD (getM 5) (pureM (.int 69621))) (getM 4)) (pureM []))) (pureM (.int 2147483629))) (pureM (.int 1009))) rfl
      (ev_op2 (ev_op2 (ev_opN (ev_bind (ev_op2 (ev_op2 rfl rfl (mul_r (by decide))) rfl rfl) rfl) rfl) rfl rfl) rfl rfl) rfl (by rw [List.length_map]; exact small _ (by omega))
    rw [this]
    show Res.ok Fl.next (⟨[.no, .own (xs.map PyData.int ++ [.int (((t' * 69621 + k).fmod 2147483629).fmod 1009)]), c, r, .dat (.int k), .dat (.int t')], 0⟩ : Sg) = _
    rw [app_int]
    rfl
def cellM : M Fl :=
  (seqM (asgM (opN absD (consM (opN intD (consM (getM 2) (pureM []))) (pureM []))) (putM 3))
  (seqM (ifM (asB (op2 geD (getM 3) (op2 powD (pureM (.int 10)) (pureM (.int 18)))))
  (seqM (forS (srcA rng1 (consM (pureM (.int 60)) (pureM []))) (putM 4)
  (seqM (appM 1 (op2 modD (opN intD (consM (getM 3) (pureM []))) (pureM (.int 1009))))
  (seqM (asgM (op2 fdivD (getM 3) (pureM (.int 1009))) (putM 3))
  (seqM (ifM (asB (op2 eqD (getM 3) (pureM (.int 0))))
  (seqM (pureM .brk)
  nextM)
  nextM)
  nextM))))
  nextM)
  (seqM (asgM (op2 modD (opN intD (consM (getM 3) (pureM []))) (pureM (.int 2147483647))) (putM 5))
  (seqM (forS (srcA rng1 (consM (pureM (.int 10)) (pureM []))) (putM 4)
  (seqM (asgM (op2 modD (opN intD (consM (op2 addD (op2 addD (op2 mulXD (getM 5) (pureM (.int 48271))) (op2 mulXD (pureM (.int 7)) (getM 4))) (pureM (.int 11))) (pureM []))) (pureM (.int 2147483647))) (putM 5))
  (seqM (appM 1 (op2 modD (op2 modD (opN intD (consM (op2 addD (op2 mulXD (getM 5) (pureM (.int 69621))) (getM 4)) (pureM []))) (pureM (.int 2147483629))) (pureM (.int 1009))))
  nextM)))
  nextM)))
  nextM))
def srestM : M Fl :=
  (seqM (ifM (asB (op2 eqD (lenV 1) (pureM (.int 0))))
  (seqM (appM 1 (pureM (.int 0)))
  nextM)
  nextM)
  (seqM (retM (getM 1))
  nextM))

theorem loop1 (ys : List Int) (c t : Slot) (r : Int) (k : Slot) (h : ys.length ≤ 4000) : ∃ (zs : List Int) (r' : Int) (k' : Slot), forM (rangeL 0 60) (putM 4) body1 (Ss ys c (.dat (.int r)) k t) = .ok .next (Ss zs c (.dat (.int r')) k' t) ∧ zs.length ≤ ys.length + 60 := by
  obtain ⟨g', e, hh⟩ := forM_inv (k := putM 4) (body := body1) (fun rest g => ∃ (zs : List Int) (r' : Int) (k' : Slot), g = Ss zs c (.dat (.int r')) k' t ∧ zs.length + rest.length ≤ ys.length + 60) (fun g => ∃ (zs : List Int) (r' : Int) (k' : Slot), g = Ss zs c (.dat (.int r')) k' t ∧ zs.length ≤ ys.length + 60)
    (fun x rest g ⟨zs, r', k', e, hl⟩ => by
      subst e
      rw [List.length_cons] at hl
      refine ⟨_, _, step1 zs c k' t r' x (by omega), ?_⟩
      by_cases e : r'.fdiv 1009 = 0
      · rw [if_pos e]
        exact .inr ⟨rfl, _, _, _, rfl, by rw [List.length_append]; simp; omega⟩
      · rw [if_neg e]
        exact .inl ⟨.inl rfl, _, _, _, rfl, by rw [List.length_append]; simp; omega⟩) (rangeL 0 60) (Ss ys c (.dat (.int r)) k t) ⟨ys, r, k, rfl, by unfold rangeL; simp⟩
  rcases hh with ⟨zs, r', k', rfl, hl⟩ | ⟨zs, r', k', rfl, hl⟩
  · exact ⟨zs, r', k', e, by simpa using hl⟩
  · exact ⟨zs, r', k', e, hl⟩
theorem loop2 (ys : List Int) (c r : Slot) (k : Slot) (t : Int) (h : ys.length ≤ 4000) : ∃ (zs : List Int) (k' : Slot) (t' : Int), forM (rangeL 0 10) (putM 4) body2 (Ss ys c r k (.dat (.int t))) = .ok .next (Ss zs c r k' (.dat (.int t'))) ∧ zs.length ≤ ys.length + 60 := by
  obtain ⟨g', e, hh⟩ := forM_inv (k := putM 4) (body := body2) (fun rest g => ∃ (zs : List Int) (k' : Slot) (t' : Int), g = Ss zs c r k' (.dat (.int t')) ∧ zs.length + rest.length ≤ ys.length + 10 ∧ ∀ d ∈ rest, ∃ i : Int, d = .int i) (fun g => False)
    (fun x rest g ⟨zs, k', t', e, hl, hd⟩ => by
      subst e
      rw [List.length_cons] at hl
      obtain ⟨i, rfl⟩ := hd x List.mem_cons_self
      obtain ⟨n, t2, e2⟩ := step2 zs c r k' t' i (by omega)
      exact ⟨_, _, e2, .inl ⟨.inl rfl, _, _, _, rfl, by rw [List.length_append]; simp; omega, fun d hm => hd d (List.mem_cons_of_mem _ hm)⟩⟩) (rangeL 0 10) (Ss ys c r k (.dat (.int t))) ⟨ys, k, t, rfl, by unfold rangeL; simp, fun d hm => by
        unfold rangeL at hm
        obtain ⟨i, _, rfl⟩ := List.mem_map.mp hm
        exact ⟨_, rfl⟩⟩
  rcases hh with ⟨zs, k', t', rfl, hl, _⟩ | hh
  · exact ⟨zs, k', t', e, by simp at hl; omega⟩
  · exact hh.elim
theorem pow18 : powD (.int 10) (.int 18) = some (.int ((10 : Int) ^ (18 : Int).toNat)) := by
  show (if powOk 10 18 = true then some (PyData.int ((10 : Int) ^ (18 : Int).toNat)) else none) = _
  rw [if_pos (by decide)]
theorem cell_ok (ys : List Int) (c : Int) (r k t : Slot) (h : ys.length ≤ 4000) : ∃ (zs : List Int) (r' k' t' : Slot), cellM (Ss ys (.dat (.int c)) r k t) = .ok .next (Ss zs (.dat (.int c)) r' k' t') ∧ zs.length ≤ ys.length + 60 := by
  obtain ⟨n, hn⟩ : ∃ n : Int, n = (if c < 0 then -c else c) := ⟨_, rfl⟩
  have e1 : asgM (opN absD (consM (opN intD (consM (getM 2) (pureM []))) (pureM []))) (putM 3) (Ss ys (.dat (.int c)) r k t) = .ok .next (Ss ys (.dat (.int c)) (.dat (.int n)) k t) := by rw [hn]; rfl
  have e2 : asB (op2 geD (getM 3) (op2 powD (pureM (.int 10)) (pureM (.int 18)))) (Ss ys (.dat (.int c)) (.dat (.int n)) k t) = .ok (decide ((10 : Int) ^ (18 : Int).toNat ≤ n)) (Ss ys (.dat (.int c)) (.dat (.int n)) k t) :=
    ev_bind (ev_op2 (y := .int ((10 : Int) ^ (18 : Int).toNat)) rfl (ev_op2 rfl rfl pow18) rfl) rfl
  cases hb : decide ((10 : Int) ^ (18 : Int).toNat ≤ n) with
  | true =>
    obtain ⟨zs, r', k', e3, hl⟩ := loop1 ys (.dat (.int c)) t n k h
    rw [hb] at e2
    exact ⟨zs, _, _, _, ev_next e1 (ev_next (ev_ifT e2 (ev_next (ev_for (xs := rangeL 0 60) rfl e3) rfl)) rfl), hl⟩
  | false =>
    obtain ⟨zs, k', t', e3, hl⟩ := loop2 ys (.dat (.int c)) (.dat (.int n)) k (n.fmod 2147483647) h
    rw [hb] at e2
    exact ⟨zs, _, _, _, ev_next e1 (ev_next (ev_ifF e2 (ev_next (g1 := Ss ys (.dat (.int c)) (.dat (.int n)) k (.dat (.int (n.fmod 2147483647)))) rfl (ev_next (ev_for (xs := rangeL 0 10) rfl e3) rfl))) rfl), hl⟩
theorem streamOk : StreamOk cellM srestM := by
  intro ns hns
  obtain ⟨g', e, hh⟩ := forM_inv (k := putM 2) (body := cellM) (fun rest g => ∃ (zs : List Int) (c r k t : Slot), g = Ss zs c r k t ∧ zs.length + 60 * rest.length ≤ 3780 ∧ ∀ d ∈ rest, ∃ i : Int, d = .int i) (fun g => False)
    (fun x rest g ⟨zs, c, r, k, t, e, hl, hd⟩ => by
      subst e
      rw [List.length_cons] at hl
      obtain ⟨i, rfl⟩ := hd x List.mem_cons_self
      obtain ⟨ws, r', k', t', e2, hw⟩ := cell_ok zs i r k t (by omega)
      exact ⟨_, _, e2, .inl ⟨.inl rfl, _, _, _, _, _, rfl, by omega, fun d hm => hd d (List.mem_cons_of_mem _ hm)⟩⟩) (ns.map PyData.int) (Ss [] .no .no .no .no) ⟨[], .no, .no, .no, .no, rfl, by simp; omega, fun d hm => by
        obtain ⟨i, _, rfl⟩ := List.mem_map.mp hm
        exact ⟨_, rfl⟩⟩
  rcases hh with ⟨zs, c, r, k, t, rfl, hl, _⟩ | hh
  · simp at hl
    have e0 : forS (srcM (lstM (constF (ns.map PyData.int)))) (putM 2) cellM (Ss [] .no .no .no .no) = .ok .next (Ss zs c r k t) := ev_for (xs := ns.map PyData.int) rfl e
    have el : asB (op2 eqD (lenV 1) (pureM (.int 0))) (Ss zs c r k t) = .ok (((zs.map PyData.int).length : Int) == 0) (Ss zs c r k t) := rfl
    cases zs with
    | nil =>
      refine ⟨[0], ⟨[.no, .dat (.list [.int 0]), c, r, k, t], 0⟩, ?_, by simp, by simp⟩
      refine ev_next e0 (ev_next (ev_ifT (g1 := Ss [] c r k t) rfl (ev_next (g1 := Ss [0] c r k t) ?_ rfl)) (ev_stop (ev_ret rfl) (fun z => nomatch z)))
      exact ev_app (i := 1) (g := Ss [] c r k t) (xs := []) (xs' := []) rfl rfl rfl (small _ (by simp))
    | cons z zs =>
      refine ⟨z :: zs, ⟨[.no, .dat (.list ((z :: zs).map PyData.int)), c, r, k, t], 0⟩, ?_, by simp, by simp at hl ⊢; omega⟩
      refine ev_next e0 (ev_next (ev_ifF (g1 := Ss (z :: zs) c r k t) ?_ rfl) (ev_stop (ev_ret rfl) (fun z => nomatch z)))
      rw [el]
      rw [show (((((z :: zs).map PyData.int).length : Nat) : Int) == 0) = false from beq_false_of_ne (by simp; omega)]
  · exact hh.elim
end DL

set_option Elab.async false
set_option linter.all false
set_option maxRecDepth 100000
set_option maxHeartbeats 4000000
/-! DL29: comprehensions, loops and calls as plain functions. -/
namespace DL
open PySem PySem.Spec L2

theorem forget_nil (g : Sg) : g.forget [] = g := rfl
theorem forget_set_get (is : List Nat) (l : List Slot) (i : Nat) (hi : i ∈ is) (h : i < l.length) : (is.foldr (fun i l => l.set i Slot.no) l)[i]? = some .no := by
  induction is with
  | nil => cases hi
  | cons j r ih =>
    rw [List.foldr_cons]
    by_cases e : j = i
    · subst e
      rw [List.getElem?_set_self (by rw [forget_len]; exact h)]
    · rw [List.getElem?_set_ne e]
      exact ih ((List.mem_cons.mp hi).resolve_left fun z => e z.symm)
theorem forget_off (is : List Nat) (l : List Slot) (i : Nat) (hi : i ∉ is) : (is.foldr (fun i l => l.set i Slot.no) l)[i]? = l[i]? := by
  induction is with
  | nil => rfl
  | cons j r ih =>
    rw [List.foldr_cons, List.getElem?_set_ne fun z => hi (List.mem_cons.mpr (.inl z.symm))]
    exact ih fun z => hi (List.mem_cons_of_mem _ z)
theorem forget_forget (g : Sg) (is : List Nat) : (g.forget is).forget is = g.forget is := by
  unfold Sg.forget
  congr 1
  apply List.ext_getElem?
  intro i
  by_cases h : i ∈ is
  · by_cases hl : i < g.sl.length
    · rw [forget_set_get is _ i h (by rw [forget_len]; exact hl), forget_set_get is _ i h hl]
    · rw [List.getElem?_eq_none (by rw [forget_len, forget_len]; omega), List.getElem?_eq_none (by rw [forget_len]; omega)]
  · rw [forget_off is _ i h]
/-- a turn of a comprehension, from G: whether it keeps x, as what -/
def Turn1 (k : D → M Unit) (c : M Bool) (e : M D) (vs : List Nat) (G : Sg) (x : D) (p : Bool) (y : D) : Prop :=
  ∃ g2 g3 : Sg, k x G = .ok () g2 ∧ c g2 = .ok p g3 ∧ (p = false → g3.forget vs = G) ∧ (p = true → ∃ g4 : Sg, e g3 = .ok y g4 ∧ g4.forget vs = G)
theorem lcLoop_pure {k : D → M Unit} {c : M Bool} {e : M D} {vs : List Nat} {G : Sg} (p : D → Bool) (f : D → D) (hG : G.forget vs = G) : ∀ (xs acc : List D), (∀ x ∈ xs, Turn1 k c e vs G x (p x) (f x)) → acc.length + xs.length ≤ sizeLine → lcLoop k c e vs xs acc G = .ok (acc ++ (xs.filter p).map f) G
  | [], acc, _, _ => by
    show Res.ok acc (G.forget vs) = _
    rw [hG]; simp
  | x :: r, acc, h, hz => by
    obtain ⟨g2, g3, h1, h2, h3, h4⟩ := h x List.mem_cons_self
    rw [List.length_cons] at hz
    show goG (k x) _ G = _
    unfold goG
    rw [h1]
    show ((calmM c) g2).bind _ = _
    have e2 : (calmM c) g2 = .ok (p x) g3 := by unfold calmM; rw [h2]; rfl
    rw [e2]
    cases hp : p x with
    | false =>
      show lcLoop k c e vs r acc (g3.forget vs) = _
      rw [h3 hp, lcLoop_pure p f hG r acc (fun y hy => h y (List.mem_cons_of_mem _ hy)) (by omega)]
      rw [List.filter_cons_of_neg (by simp [hp])]
    | true =>
      obtain ⟨g4, e4, hg4⟩ := h4 hp
      show ((calmM e) g3).bind _ = _
      have e3 : (calmM e) g3 = .ok (f x) g4 := by unfold calmM; rw [e4]; rfl
      rw [e3]
      show pushM acc (f x) (fun acc' => afterM vs (lcLoop k c e vs r acc')) g4 = _
      unfold pushM
      rw [if_pos (by omega)]
      show lcLoop k c e vs r (acc ++ [f x]) (g4.forget vs) = _
      rw [hg4, lcLoop_pure p f hG r (acc ++ [f x]) (fun y hy => h y (List.mem_cons_of_mem _ hy)) (by rw [List.length_append]; simp; omega)]
      rw [List.filter_cons_of_pos (by simp [hp])]
      simp
theorem lc_pure {src : M (List D)} {k : D → M Unit} {c : M Bool} {e : M D} {vs : List Nat} {g g1 : Sg} {xs : List D} (p : D → Bool) (f : D → D) (hs : src g = .ok xs g1) (h : ∀ x ∈ xs, Turn1 k c e vs (g1.forget vs) x (p x) (f x)) (hz : xs.length ≤ sizeLine) :
    lcM src k c e vs g = .ok ((xs.filter p).map f) (g1.forget vs) := by
  refine ev_bind hs ?_
  show lcLoop k c e vs xs [] (g1.forget vs) = _
  rw [lcLoop_pure p f (forget_forget g1 vs) xs [] h (by simpa using hz)]
  simp
/-- no test -/
theorem lc_map {src : M (List D)} {k : D → M Unit} {e : M D} {vs : List Nat} {g g1 : Sg} {xs : List D} (f : D → D) (hs : src g = .ok xs g1) (h : ∀ x ∈ xs, ∃ g2 g4 : Sg, k x (g1.forget vs) = .ok () g2 ∧ e g2 = .ok (f x) g4 ∧ g4.forget vs = g1.forget vs) (hz : xs.length ≤ sizeLine) :
    lcM src k yesM e vs g = .ok (xs.map f) (g1.forget vs) := by
  have := lc_pure (c := yesM) (e := e) (k := k) (vs := vs) (fun _ => true) f hs (fun x hx => by
    obtain ⟨g2, g4, h1, h2, h3⟩ := h x hx
    refine ⟨g2, g2, h1, rfl, ?_, fun _ => ⟨g4, h2, h3⟩⟩
    intro z
    cases z) hz
  rw [this, List.filter_eq_self.mpr fun _ _ => rfl]
/-! two walks -/
theorem lcIn_pure {k1 : D → M Unit} {c1 : M Bool} {e : M D} {vs1 : List Nat} {next : List D → M (List D)} {G : Sg} (p : D → Bool) (f : D → D) : ∀ (ys acc : List D), (∀ y ∈ ys, Turn1 k1 c1 e vs1 G y (p y) (f y)) → acc.length + ys.length ≤ sizeLine → lcIn k1 c1 e vs1 next ys acc G = next (acc ++ (ys.filter p).map f) G
  | [], acc, _, _ => by simp [lcIn]
  | x :: r, acc, h, hz => by
    obtain ⟨g2, g3, h1, h2, h3, h4⟩ := h x List.mem_cons_self
    rw [List.length_cons] at hz
    show goG (k1 x) _ G = _
    unfold goG
    rw [h1]
    show ((calmM c1) g2).bind _ = _
    have e2 : (calmM c1) g2 = .ok (p x) g3 := by unfold calmM; rw [h2]; rfl
    rw [e2]
    cases hp : p x with
    | false =>
      show lcIn k1 c1 e vs1 next r acc (g3.forget vs1) = _
      rw [h3 hp, lcIn_pure p f r acc (fun y hy => h y (List.mem_cons_of_mem _ hy)) (by omega)]
      rw [List.filter_cons_of_neg (by simp [hp])]
    | true =>
      obtain ⟨g4, e4, hg4⟩ := h4 hp
      show ((calmM e) g3).bind _ = _
      have e3 : (calmM e) g3 = .ok (f x) g4 := by unfold calmM; rw [e4]; rfl
      rw [e3]
      show pushM acc (f x) (fun acc' => afterM vs1 (lcIn k1 c1 e vs1 next r acc')) g4 = _
      unfold pushM
      rw [if_pos (by omega)]
      show lcIn k1 c1 e vs1 next r (acc ++ [f x]) (g4.forget vs1) = _
      rw [hg4, lcIn_pure p f r (acc ++ [f x]) (fun y hy => h y (List.mem_cons_of_mem _ hy)) (by rw [List.length_append]; simp; omega)]
      rw [List.filter_cons_of_pos (by simp [hp])]
      simp
/-- [f x y for x in xs for y in ys x if p x y] -/
theorem lc2Loop_pure {k : D → M Unit} {src1 : M (List D)} {k1 : D → M Unit} {c1 : M Bool} {e : M D} {vs vs1 : List Nat} {G : Sg} (ys : D → List D) (p : D → D → Bool) (f : D → D → D) (hG : G.forget vs = G) :
    ∀ (xs acc : List D), (∀ x ∈ xs, ∃ g2 g3 : Sg, k x G = .ok () g2 ∧ src1 g2 = .ok (ys x) g3 ∧ (g3.forget vs1).forget vs = G ∧ ∀ y ∈ ys x, Turn1 k1 c1 e vs1 (g3.forget vs1) y (p x y) (f x y)) → acc.length + (xs.map fun x => (ys x).length).sum ≤ sizeLine →
      lc2Loop k yesM src1 k1 c1 e vs vs1 xs acc G = .ok (acc ++ (xs.flatMap fun x => ((ys x).filter (p x)).map (f x))) G
  | [], acc, _, _ => by
    show Res.ok acc (G.forget vs) = _
    rw [hG]; simp
  | x :: r, acc, h, hz => by
    obtain ⟨g2, g3, h1, h2, h3, h4⟩ := h x List.mem_cons_self
    rw [List.map_cons, List.sum_cons] at hz
    show goG (k x) _ G = _
    unfold goG
    rw [h1]
    show ((calmM src1) g2).bind _ = _
    have e2 : (calmM src1) g2 = .ok (ys x) g3 := by unfold calmM; rw [h2]; rfl
    rw [e2]
    show lcIn k1 c1 e vs1 _ (ys x) acc (g3.forget vs1) = _
    rw [lcIn_pure (p x) (f x) (ys x) acc h4 (by omega)]
    show lc2Loop k yesM src1 k1 c1 e vs vs1 r _ ((g3.forget vs1).forget vs) = _
    have hl : (((ys x).filter (p x)).map (f x)).length ≤ (ys x).length := by rw [List.length_map]; exact List.length_filter_le _ _
    rw [h3, lc2Loop_pure ys p f hG r _ (fun y hy => h y (List.mem_cons_of_mem _ hy)) (by rw [List.length_append]; omega)]
    simp
theorem lc2_pure {src : M (List D)} {k : D → M Unit} {src1 : M (List D)} {k1 : D → M Unit} {c1 : M Bool} {e : M D} {vs vs1 : List Nat} {g g1 : Sg} {xs : List D} (ys : D → List D) (p : D → D → Bool) (f : D → D → D) (hs : src g = .ok xs g1)
    (h : ∀ x ∈ xs, ∃ g2 g3 : Sg, k x (g1.forget vs) = .ok () g2 ∧ src1 g2 = .ok (ys x) g3 ∧ (g3.forget vs1).forget vs = g1.forget vs ∧ ∀ y ∈ ys x, Turn1 k1 c1 e vs1 (g3.forget vs1) y (p x y) (f x y)) (hz : (xs.map fun x => (ys x).length).sum ≤ sizeLine) :
    lc2M src k yesM src1 k1 c1 e vs vs1 g = .ok (xs.flatMap fun x => ((ys x).filter (p x)).map (f x)) (g1.forget vs) := by
  refine ev_bind hs ?_
  show lc2Loop k yesM src1 k1 c1 e vs vs1 xs [] (g1.forget vs) = _
  rw [lc2Loop_pure ys p f (forget_forget g1 vs) xs [] h (by simpa using hz)]
  simp
/-! calls -/
/-- h tells d, and leaves the stream's count at ct' -/
def Tells (h : FnM) (ns : List Int) (ss : List Slot) (ct : Int) (d : D) (ct' : Int) : Prop := ∃ sl, h ns ss ct = .ok d ⟨sl, ct'⟩
theorem ev_call {h : FnM} {ns : List Int} {f : M (List Slot)} {ss : List Slot} {g g1 : Sg} {d : D} {ct' : Int} (hf : f g = .ok ss g1) (ht : Tells h ns ss g1.ct d ct') : callM h ns f g = .ok d { g1 with ct := ct' } := by
  obtain ⟨sl, e⟩ := ht
  refine ev_bind hf ?_
  show (match h ns ss g1.ct with
    | .ok d g' => (.ok d { g1 with ct := g'.ct } : Res D)
    | .exc n ct => .exc n ct
    | .bad => .bad) = _
  rw [e]
/-- a call that raises -/
theorem ev_callX {h : FnM} {ns : List Int} {f : M (List Slot)} {ss : List Slot} {g g1 : Sg} {n : Str} {ct' : Int} (hf : f g = .ok ss g1) (ht : h ns ss g1.ct = .exc n ct') : callM h ns f g = .exc n ct' := by
  refine ev_bind hf ?_
  show (match h ns ss g1.ct with
    | .ok d g' => (.ok d { g1 with ct := g'.ct } : Res D)
    | .exc n ct => .exc n ct
    | .bad => .bad) = _
  rw [ht]
theorem tells_fn {n N : Nat} {m : List Int → M Fl} {ns : List Int} {ss : List Slot} {ct : Int} {d : D} {g : Sg} (hl : ss.length = n) (h : m ns ⟨ss ++ List.replicate (N - ss.length) .no, ct⟩ = .ok (.ret d) g) : Tells (fn n N m) ns ss ct d g.ct := by
  refine ⟨g.sl, ?_⟩
  unfold fn
  rw [if_pos hl]
  unfold runF
  rw [h]
/-! loops over data, the state as a function of what they carry -/
theorem forM_fold {α : Type} {k : D → M Unit} {body : M Fl} (S : α → Sg) (step : α → D → α) (xs : List D) (h : ∀ x ∈ xs, ∀ a, goG (k x) body (S a) = .ok .next (S (step a x))) : ∀ a, forM xs k body (S a) = .ok .next (S (xs.foldl step a)) := by
  induction xs with
  | nil => intro a; rfl
  | cons x r ih =>
    intro a
    have e2 : forM (x :: r) k body (S a) = (goG (k x) body (S a)).bind fun f => match f with
      | .next => forM r k body
      | .cont => forM r k body
      | .brk => nextM
      | .ret d => pureM (.ret d) := by
      show goG (k x) (bindM body _) (S a) = _
      unfold goG
      cases k x (S a) <;> rfl
    rw [e2, h x List.mem_cons_self a]
    exact ih (fun y hy => h y (List.mem_cons_of_mem _ hy)) _
end DL

set_option Elab.async false
set_option linter.all false
set_option maxRecDepth 100000
set_option maxHeartbeats 4000000
/-! DL30: the same over lists of a given kind, and the operations on words of numbers. -/
namespace DL
open PySem PySem.Spec L2

variable {α β : Type}
/-- a function on data that follows one on α, where enc is one to one: here only its values on the list matter -/
theorem lcLoop_map {k : D → M Unit} {c : M Bool} {e : M D} {vs : List Nat} {G : Sg} (enc : α → D) (p : α → Bool) (f : α → D) (hG : G.forget vs = G) : ∀ (xs : List α) (acc : List D), (∀ x ∈ xs, Turn1 k c e vs G (enc x) (p x) (f x)) → acc.length + xs.length ≤ sizeLine → lcLoop k c e vs (xs.map enc) acc G = .ok (acc ++ (xs.filter p).map f) G
  | [], acc, _, _ => by
    show Res.ok acc (G.forget vs) = _
    rw [hG]; simp
  | x :: r, acc, h, hz => by
    have h0 := lcLoop_pure (k := k) (c := c) (e := e) (vs := vs) (G := G) (fun _ => p x) (fun _ => f x) hG [enc x] acc (fun y hy => by
      obtain rfl := List.mem_singleton.mp hy
      exact h x List.mem_cons_self) (by rw [List.length_cons] at hz; simp; omega)
    obtain ⟨g2, g3, h1, h2, h3, h4⟩ := h x List.mem_cons_self
    rw [List.length_cons] at hz
    show goG (k (enc x)) _ G = _
    unfold goG
    rw [h1]
    show ((calmM c) g2).bind _ = _
    have e2 : (calmM c) g2 = .ok (p x) g3 := by unfold calmM; rw [h2]; rfl
    rw [e2]
    cases hp : p x with
    | false =>
      show lcLoop k c e vs (r.map enc) acc (g3.forget vs) = _
      rw [h3 hp, lcLoop_map enc p f hG r acc (fun y hy => h y (List.mem_cons_of_mem _ hy)) (by omega)]
      rw [List.filter_cons_of_neg (by simp [hp])]
    | true =>
      obtain ⟨g4, e4, hg4⟩ := h4 hp
      show ((calmM e) g3).bind _ = _
      have e3 : (calmM e) g3 = .ok (f x) g4 := by unfold calmM; rw [e4]; rfl
      rw [e3]
      show pushM acc (f x) (fun acc' => afterM vs (lcLoop k c e vs (r.map enc) acc')) g4 = _
      unfold pushM
      rw [if_pos (by omega)]
      show lcLoop k c e vs (r.map enc) (acc ++ [f x]) (g4.forget vs) = _
      rw [hg4, lcLoop_map enc p f hG r (acc ++ [f x]) (fun y hy => h y (List.mem_cons_of_mem _ hy)) (by rw [List.length_append]; simp; omega)]
      rw [List.filter_cons_of_pos (by simp [hp])]
      simp
/-- [f x for x in xs if p x] -/
theorem lcT {src : M (List D)} {k : D → M Unit} {c : M Bool} {e : M D} {vs : List Nat} {g g1 : Sg} (enc : α → D) (xs : List α) (p : α → Bool) (f : α → D) (hs : src g = .ok (xs.map enc) g1) (h : ∀ x ∈ xs, Turn1 k c e vs (g1.forget vs) (enc x) (p x) (f x)) (hz : xs.length ≤ sizeLine) :
    lcM src k c e vs g = .ok ((xs.filter p).map f) (g1.forget vs) := by
  refine ev_bind hs ?_
  show lcLoop k c e vs (xs.map enc) [] (g1.forget vs) = _
  rw [lcLoop_map enc p f (forget_forget g1 vs) xs [] h (by simpa using hz)]
  simp
/-- [f x for x in xs] -/
theorem lcTm {src : M (List D)} {k : D → M Unit} {e : M D} {vs : List Nat} {g g1 : Sg} (enc : α → D) (xs : List α) (f : α → D) (hs : src g = .ok (xs.map enc) g1) (h : ∀ x ∈ xs, ∃ g2 g4 : Sg, k (enc x) (g1.forget vs) = .ok () g2 ∧ e g2 = .ok (f x) g4 ∧ g4.forget vs = g1.forget vs) (hz : xs.length ≤ sizeLine) :
    lcM src k yesM e vs g = .ok (xs.map f) (g1.forget vs) := by
  have := lcT (c := yesM) (e := e) (k := k) (vs := vs) enc xs (fun _ => true) f hs (fun x hx => by
    obtain ⟨g2, g4, h1, h2, h3⟩ := h x hx
    refine ⟨g2, g2, h1, rfl, ?_, fun _ => ⟨g4, h2, h3⟩⟩
    intro z
    cases z) hz
  rw [this, List.filter_eq_self.mpr fun _ _ => rfl]
theorem lcIn_map {k1 : D → M Unit} {c1 : M Bool} {e : M D} {vs1 : List Nat} {next : List D → M (List D)} {G : Sg} (enc : β → D) (p : β → Bool) (f : β → D) : ∀ (ys : List β) (acc : List D), (∀ y ∈ ys, Turn1 k1 c1 e vs1 G (enc y) (p y) (f y)) → acc.length + ys.length ≤ sizeLine → lcIn k1 c1 e vs1 next (ys.map enc) acc G = next (acc ++ (ys.filter p).map f) G
  | [], acc, _, _ => by simp [lcIn]
  | x :: r, acc, h, hz => by
    obtain ⟨g2, g3, h1, h2, h3, h4⟩ := h x List.mem_cons_self
    rw [List.length_cons] at hz
    show goG (k1 (enc x)) _ G = _
    unfold goG
    rw [h1]
    show ((calmM c1) g2).bind _ = _
    have e2 : (calmM c1) g2 = .ok (p x) g3 := by unfold calmM; rw [h2]; rfl
    rw [e2]
    cases hp : p x with
    | false =>
      show lcIn k1 c1 e vs1 next (r.map enc) acc (g3.forget vs1) = _
      rw [h3 hp, lcIn_map enc p f r acc (fun y hy => h y (List.mem_cons_of_mem _ hy)) (by omega)]
      rw [List.filter_cons_of_neg (by simp [hp])]
    | true =>
      obtain ⟨g4, e4, hg4⟩ := h4 hp
      show ((calmM e) g3).bind _ = _
      have e3 : (calmM e) g3 = .ok (f x) g4 := by unfold calmM; rw [e4]; rfl
      rw [e3]
      show pushM acc (f x) (fun acc' => afterM vs1 (lcIn k1 c1 e vs1 next (r.map enc) acc')) g4 = _
      unfold pushM
      rw [if_pos (by omega)]
      show lcIn k1 c1 e vs1 next (r.map enc) (acc ++ [f x]) (g4.forget vs1) = _
      rw [hg4, lcIn_map enc p f r (acc ++ [f x]) (fun y hy => h y (List.mem_cons_of_mem _ hy)) (by rw [List.length_append]; simp; omega)]
      rw [List.filter_cons_of_pos (by simp [hp])]
      simp
theorem lc2Loop_map {k : D → M Unit} {src1 : M (List D)} {k1 : D → M Unit} {c1 : M Bool} {e : M D} {vs vs1 : List Nat} {G : Sg} (enc : α → D) (enc1 : β → D) (ys : α → List β) (p : α → β → Bool) (f : α → β → D) (hG : G.forget vs = G) :
    ∀ (xs : List α) (acc : List D), (∀ x ∈ xs, ∃ g2 g3 : Sg, k (enc x) G = .ok () g2 ∧ src1 g2 = .ok ((ys x).map enc1) g3 ∧ (g3.forget vs1).forget vs = G ∧ ∀ y ∈ ys x, Turn1 k1 c1 e vs1 (g3.forget vs1) (enc1 y) (p x y) (f x y)) → acc.length + (xs.map fun x => (ys x).length).sum ≤ sizeLine →
      lc2Loop k yesM src1 k1 c1 e vs vs1 (xs.map enc) acc G = .ok (acc ++ (xs.flatMap fun x => ((ys x).filter (p x)).map (f x))) G
  | [], acc, _, _ => by
    show Res.ok acc (G.forget vs) = _
    rw [hG]; simp
  | x :: r, acc, h, hz => by
    obtain ⟨g2, g3, h1, h2, h3, h4⟩ := h x List.mem_cons_self
    rw [List.map_cons, List.sum_cons] at hz
    show goG (k (enc x)) _ G = _
    unfold goG
    rw [h1]
    show ((calmM src1) g2).bind _ = _
    have e2 : (calmM src1) g2 = .ok ((ys x).map enc1) g3 := by unfold calmM; rw [h2]; rfl
    rw [e2]
    show lcIn k1 c1 e vs1 _ ((ys x).map enc1) acc (g3.forget vs1) = _
    rw [lcIn_map enc1 (p x) (f x) (ys x) acc h4 (by omega)]
    show lc2Loop k yesM src1 k1 c1 e vs vs1 (r.map enc) _ ((g3.forget vs1).forget vs) = _
    have hl : (((ys x).filter (p x)).map (f x)).length ≤ (ys x).length := by rw [List.length_map]; exact List.length_filter_le _ _
    rw [h3, lc2Loop_map enc enc1 ys p f hG r _ (fun y hy => h y (List.mem_cons_of_mem _ hy)) (by rw [List.length_append]; omega)]
    simp
/-- [f x y for x in xs for y in ys x if p x y] -/
theorem lc2T {src : M (List D)} {k : D → M Unit} {src1 : M (List D)} {k1 : D → M Unit} {c1 : M Bool} {e : M D} {vs vs1 : List Nat} {g g1 : Sg} (enc : α → D) (enc1 : β → D) (xs : List α) (ys : α → List β) (p : α → β → Bool) (f : α → β → D) (hs : src g = .ok (xs.map enc) g1)
    (h : ∀ x ∈ xs, ∃ g2 g3 : Sg, k (enc x) (g1.forget vs) = .ok () g2 ∧ src1 g2 = .ok ((ys x).map enc1) g3 ∧ (g3.forget vs1).forget vs = g1.forget vs ∧ ∀ y ∈ ys x, Turn1 k1 c1 e vs1 (g3.forget vs1) (enc1 y) (p x y) (f x y)) (hz : (xs.map fun x => (ys x).length).sum ≤ sizeLine) :
    lc2M src k yesM src1 k1 c1 e vs vs1 g = .ok (xs.flatMap fun x => ((ys x).filter (p x)).map (f x)) (g1.forget vs) := by
  refine ev_bind hs ?_
  show lc2Loop k yesM src1 k1 c1 e vs vs1 (xs.map enc) [] (g1.forget vs) = _
  rw [lc2Loop_map enc enc1 ys p f (forget_forget g1 vs) xs [] h (by simpa using hz)]
  simp
theorem forM_foldT {γ : Type} {k : D → M Unit} {body : M Fl} (enc : α → D) (S : γ → Sg) (step : γ → α → γ) (xs : List α) (h : ∀ x ∈ xs, ∀ a, goG (k (enc x)) body (S a) = .ok .next (S (step a x))) (a : γ) : forM (xs.map enc) k body (S a) = .ok .next (S (xs.foldl step a)) := by
  induction xs generalizing a with
  | nil => rfl
  | cons x r ih =>
    have e2 : forM ((x :: r).map enc) k body (S a) = (goG (k (enc x)) body (S a)).bind fun f => match f with
      | .next => forM (r.map enc) k body
      | .cont => forM (r.map enc) k body
      | .brk => nextM
      | .ret d => pureM (.ret d) := by
      show goG (k (enc x)) (bindM body _) (S a) = _
      unfold goG
      cases k (enc x) (S a) <;> rfl
    rw [e2, h x List.mem_cons_self a]
    exact ih (fun y hy => h y (List.mem_cons_of_mem _ hy)) _
/-- with a fact that each turn keeps, and the turns counted -/
theorem forM_foldI {γ : Type} {k : D → M Unit} {body : M Fl} (enc : α → D) (S : γ → Sg) (step : γ → α → γ) (I : List α → γ → Prop) (xs : List α) (h : ∀ (x : α) (r : List α) (a : γ), x ∈ xs → I (x :: r) a → goG (k (enc x)) body (S a) = .ok .next (S (step a x)) ∧ I r (step a x)) (a : γ) (ha : I xs a) : forM (xs.map enc) k body (S a) = .ok .next (S (xs.foldl step a)) ∧ I [] (xs.foldl step a) := by
  induction xs generalizing a with
  | nil => exact ⟨rfl, ha⟩
  | cons x r ih =>
    have e2 : forM ((x :: r).map enc) k body (S a) = (goG (k (enc x)) body (S a)).bind fun f => match f with
      | .next => forM (r.map enc) k body
      | .cont => forM (r.map enc) k body
      | .brk => nextM
      | .ret d => pureM (.ret d) := by
      show goG (k (enc x)) (bindM body _) (S a) = _
      unfold goG
      cases k (enc x) (S a) <;> rfl
    obtain ⟨h1, h2⟩ := h x r a List.mem_cons_self ha
    rw [e2, h1]
    exact ih (fun y r' a' hy => h y r' a' (List.mem_cons_of_mem _ hy)) _ h2
/-! words of numbers -/
abbrev eI (i : Int) : D := .int i
abbrev eT (w : List Int) : D := .tuple (w.map PyData.int)
theorem canLay_ints (w : List Int) : PyData.canLayAll0 (w.map PyData.int) = true := by
  induction w with
  | nil => rfl
  | cons x r ih => rw [List.map_cons]; simp [PyData.canLayAll0, PyData.canLay0, ih]
theorem anyE_int (i : Int) (w : List Int) : anyE (.int i) (w.map PyData.int) = w.contains i := by
  induction w with
  | nil => rfl
  | cons x r ih =>
    show (PyData.eqv (.int x) (.int i) || anyE (.int i) (r.map PyData.int)) = _
    rw [ih, List.contains_cons]
    congr 1
    show (x == i) = (i == x)
    exact Bool.beq_comm
end DL

set_option Elab.async false
set_option linter.all false
set_option maxRecDepth 100000
set_option maxHeartbeats 4000000
/-! DL31: the operations on numbers and on words of numbers. -/
namespace DL
open PySem PySem.Spec L2

theorem depth_ints (w : List Int) : PyData.depthAll (w.map PyData.int) = 0 := by
  induction w with
  | nil => rfl
  | cons x r ih => rw [List.map_cons]; simp [PyData.depthAll, PyData.depth, ih]
theorem shaped_T (w : List Int) : SeqAt.shaped (eT w) = true := by
  show ((eT w).canLay0 && decide ((eT w).depth ≤ 64)) = true
  simp [PyData.canLay0, canLay_ints, PyData.depth, depth_ints]
theorem shaped_L (w : List Int) : SeqAt.shaped (.list (w.map PyData.int)) = true := by
  show (PyData.canLay0 _ && decide (PyData.depth _ ≤ 64)) = true
  simp [PyData.canLay0, canLay_ints, PyData.depth, depth_ints]
theorem in_T (neg : Bool) (i : Int) (w : List Int) : inD neg (.int i) (eT w) = some (.bool (neg != w.contains i)) := by
  unfold inD
  rw [if_pos ⟨rfl, shaped_T w⟩]
  show some (PyData.bool (if neg = true then !(anyE (.int i) (w.map PyData.int)) else anyE (.int i) (w.map PyData.int))) = _
  rw [anyE_int]
  cases neg <;> simp
theorem eqvAll_ints : ∀ u w : List Int, PyData.eqvAll (u.map PyData.int) (w.map PyData.int) = (u == w)
  | [], [] => rfl
  | [], _ :: _ => rfl
  | _ :: _, [] => rfl
  | x :: u, y :: w => by
    show ((x == y) && PyData.eqvAll (u.map PyData.int) (w.map PyData.int)) = _
    rw [eqvAll_ints u w]
    rfl
theorem eq_T (u w : List Int) : eqD (eT u) (eT w) = some (.bool (u == w)) := by
  unfold eqD
  rw [if_pos ⟨shaped_T u, shaped_T w⟩]
  show some (PyData.bool (PyData.eqvAll (u.map PyData.int) (w.map PyData.int))) = _
  rw [eqvAll_ints]
theorem add_T {u w : List Int} (h : u.length + w.length ≤ sizeLine) : addD (eT u) (eT w) = some (eT (u ++ w)) := by
  show (if (u.map PyData.int).length + (w.map PyData.int).length ≤ sizeLine then some (PyData.tuple (u.map PyData.int ++ w.map PyData.int)) else none) = _
  rw [if_pos (by simpa using h), ← List.map_append]
theorem add_L {u w : List D} (h : u.length + w.length ≤ sizeLine) : addD (.list u) (.list w) = some (.list (u ++ w)) := by
  show (if u.length + w.length ≤ sizeLine then some (PyData.list (u ++ w)) else none) = _
  rw [if_pos h]
theorem atI_last2 {α : Type} (xs : List α) (a b : α) : L2.atI (xs ++ [a, b]) (-2) = some a := by
  have hl : (xs ++ [a, b]).length = xs.length + 2 := by simp
  have e : L2.ixN (xs ++ [a, b]).length (-2) = some xs.length := by
    unfold L2.ixN
    rw [if_neg (by decide), if_pos (by rw [hl]; omega), hl]
    congr 1
    omega
  unfold L2.atI
  rw [e]
  show (xs ++ [a, b])[xs.length]? = some a
  simp
theorem ix_last2 (u : List Int) (a b : Int) : ixD (eT (u ++ [a, b])) (.int (-2)) = some (.int a) := by
  show L2.atI ((u ++ [a, b]).map PyData.int) (-2) = _
  rw [List.map_append]
  exact atI_last2 (u.map PyData.int) (.int a) (.int b)
theorem ix_last (u : List Int) (b : Int) : ixD (eT (u ++ [b])) (.int (-1)) = some (.int b) := by
  show L2.atI ((u ++ [b]).map PyData.int) (-1) = _
  rw [List.map_append]
  exact L2.atI_last (u.map PyData.int) (.int b)
theorem cut_last (u : List D) (b : D) : cutL (u ++ [b]) none (some (-1)) = u := by
  unfold cutL
  have h1 : HT.sIx (u ++ [b]).length 0 none = 0 := rfl
  have h2 : HT.sIx (u ++ [b]).length (u ++ [b]).length (some (-1)) = u.length := by
    show (if (-1 : Int) < 0 then ((-1 : Int) + ((u ++ [b]).length : Int)).toNat else min (-1 : Int).toNat (u ++ [b]).length) = _
    rw [if_pos (by decide), List.length_append]
    simp
    omega
  rw [h1, h2]
  simp
theorem cut_T (u : List Int) (b : Int) : cutD (eT (u ++ [b])) none (some (-1)) = some (eT u) := by
  show some (PyData.tuple (cutL ((u ++ [b]).map PyData.int) none (some (-1)))) = _
  rw [List.map_append]
  exact congrArg (fun x => some (PyData.tuple x)) (cut_last (u.map PyData.int) (.int b))
theorem range_map (n : Nat) : rangeL 0 n = ((List.range n).map fun k : Nat => (k : Int)).map PyData.int := by
  unfold rangeL
  rw [List.map_map]
  apply List.map_congr_left
  intro k _
  show PyData.int (0 + (k : Int)) = _
  rw [Int.zero_add]
  rfl
/-- the numbers lo, lo + 1, ... below hi -/
def rngI (lo hi : Int) : List Int := (List.range (hi - lo).toNat).map fun k : Nat => lo + (k : Int)
theorem rangeL_rngI (lo hi : Int) : rangeL lo (hi - lo).toNat = (rngI lo hi).map PyData.int := by
  unfold rangeL rngI
  rw [List.map_map]
  rfl
theorem rng1_i (n : Int) (h0 : -(1000000) ≤ n) (h : n ≤ 1000000) : rng1 [.int n] = some ((rngI 0 n).map PyData.int) := by
  show (if -(2 ^ 62) ≤ n ∧ n < 2 ^ 62 then some (rangeL 0 n.toNat) else none) = _
  rw [if_pos ⟨by omega, by omega⟩, ← rangeL_rngI, Int.sub_zero]
theorem rng2_i (i j : Int) (h0 : -(1000000) ≤ i) (h : i ≤ 1000000) (h2 : -(1000000) ≤ j) (h3 : j ≤ 1000000) : rng2 [.int i, .int j] = some ((rngI i j).map PyData.int) := by
  show (if -(2 ^ 62) ≤ i ∧ i < 2 ^ 62 ∧ -(2 ^ 62) ≤ j ∧ j < 2 ^ 62 then some (rangeL i (j - i).toNat) else none) = _
  rw [if_pos ⟨by omega, by omega, by omega, by omega⟩, ← rangeL_rngI]
theorem mem_rngI {lo hi i : Int} : i ∈ rngI lo hi ↔ lo ≤ i ∧ i < hi := by
  unfold rngI
  rw [List.mem_map]
  constructor
  · rintro ⟨k, hk, rfl⟩
    have := List.mem_range.mp hk
    omega
  · intro h
    exact ⟨(i - lo).toNat, List.mem_range.mpr (by omega), by omega⟩
theorem len_rngI (lo hi : Int) : (rngI lo hi).length = (hi - lo).toNat := by
  unfold rngI
  rw [List.length_map, List.length_range]
/-! dicts whose keys are words, whose values are numbers -/
abbrev kT (w : List Int) : List Key := w.map Sum.inl
theorem kT_inj {u w : List Int} (h : kT u = kT w) : u = w := by
  induction u generalizing w with
  | nil => cases w with
    | nil => rfl
    | cons y r => cases h
  | cons x u ih => cases w with
    | nil => cases h
    | cons y w =>
      injection h with h1 h2
      injection h1 with h1
      rw [h1, ih h2]
theorem toKeyT_T (w : List Int) : toKeyT (eT w) = some (kT w) := by
  have := toKeyT_map (kT w)
  unfold keyTD at this
  rw [← this]
  congr 1
  show PyData.tuple _ = PyData.tuple _
  congr 1
  show _ = (w.map Sum.inl).map keyD
  rw [List.map_map]
  rfl
theorem val_put {κ : Type} [DecidableEq κ] (kvs : List (κ × D)) (k k' : κ) (v : D) : valD (putD kvs k v) k' = if k = k' then some v else valD kvs k' := by
  unfold valD putD
  split
  · rename_i h
    induction kvs with
    | nil => cases h
    | cons p r ih =>
      obtain ⟨a, b⟩ := p
      rw [List.map_cons, List.find?_cons, List.find?_cons]
      by_cases e : a = k
      · subst e
        simp only [if_true]
        by_cases e2 : a = k'
        · simp [e2]
        · simp only [e2, decide_false, if_false]
          by_cases hr : (r.any fun kv => decide (kv.1 = a)) = true
          · have := ih hr
            rw [if_neg e2] at this
            exact this
          · have : (r.map fun kv => if kv.1 = a then (kv.1, v) else kv) = r := by
              rw [List.map_congr_left (g := id), List.map_id]
              intro q hq
              have : ¬ q.1 = a := fun z => hr (List.any_eq_true.mpr ⟨q, hq, decide_eq_true z⟩)
              simp [this]
            rw [this]
      · simp only [e, if_false]
        by_cases e2 : a = k'
        · subst e2
          simp [Ne.symm e, show ¬ k = a from fun z => e z.symm]
        · simp only [e2, decide_false]
          exact ih (by simpa [e] using h)
  · rename_i h
    rw [List.find?_append]
    cases e : kvs.find? fun kv => decide (kv.1 = k') with
    | none =>
      by_cases e2 : k = k'
      · simp [e2]
      · simp [e2]
    | some q =>
      have hq := List.find?_some e
      have hm := List.mem_of_find?_eq_some e
      have : ¬ k = k' := fun z => h (List.any_eq_true.mpr ⟨q, hm, by rw [z]; exact hq⟩)
      simp [this]
theorem len_put {κ : Type} [DecidableEq κ] (kvs : List (κ × D)) (k : κ) (v : D) : (putD kvs k v).length ≤ kvs.length + 1 := by
  unfold putD
  split
  · rw [List.length_map]; omega
  · simp
end DL

set_option Elab.async false
set_option linter.all false
set_option maxRecDepth 100000
set_option maxHeartbeats 4000000
/-! DL32: ends of words; dicts of words. -/
namespace DL
open PySem PySem.Spec L2
def ini (w : List Int) : List Int := w.take (w.length - 1)
def lst (w : List Int) : Int := w.getD (w.length - 1) 0
def pen (w : List Int) : Int := w.getD (w.length - 2) 0
theorem ini_app (u : List Int) (b : Int) : ini (u ++ [b]) = u := by
  unfold ini
  simp
theorem lst_app (u : List Int) (b : Int) : lst (u ++ [b]) = b := by
  unfold lst
  simp
theorem ini_lst {w : List Int} (h : 1 ≤ w.length) : ini w ++ [lst w] = w := by
  obtain ⟨u, b, rfl⟩ : ∃ u b, w = u ++ [b] := by
    rcases List.eq_nil_or_concat w with e | ⟨u, b, e⟩
    · rw [e] at h; cases h
    · exact ⟨u, b, by rw [e, List.concat_eq_append]⟩
  rw [ini_app, lst_app]
theorem cut_ini {w : List Int} (h : 1 ≤ w.length) : cutD (eT w) none (some (-1)) = some (eT (ini w)) := by
  have := cut_T (ini w) (lst w)
  rw [ini_lst h] at this
  exact this
theorem ix_lst {w : List Int} (h : 1 ≤ w.length) : ixD (eT w) (.int (-1)) = some (.int (lst w)) := by
  have := ix_last (ini w) (lst w)
  rw [ini_lst h] at this
  exact this
theorem pen_app (u : List Int) (a b : Int) : pen (u ++ [a, b]) = a := by
  unfold pen
  simp
theorem ix_pen {w : List Int} (h : 2 ≤ w.length) : ixD (eT w) (.int (-2)) = some (.int (pen w)) := by
  have e1 := ini_lst (w := w) (by omega)
  have hl : (ini w).length = w.length - 1 := by unfold ini; rw [List.length_take]; omega
  have e2 := ini_lst (w := ini w) (by omega)
  have e3 : w = ini (ini w) ++ [lst (ini w), lst w] := by
    have : ini (ini w) ++ [lst (ini w), lst w] = (ini (ini w) ++ [lst (ini w)]) ++ [lst w] := by rw [List.append_assoc]; rfl
    rw [this, e2, e1]
  have := ix_last2 (ini (ini w)) (lst (ini w)) (lst w)
  rw [← e3] at this
  rw [this]
  have h5 : pen w = lst (ini w) := (congrArg pen e3).trans (pen_app _ _ _)
  rw [h5]
/-- what a list of pairs gives for a word -/
def look (kvs : List (List Int × Int)) (k : List Int) : Option Int := (kvs.find? fun p => p.1 == k).map (·.2)
def lookZ (kvs : List (List Int × Int)) (k : List Int) : Int := (look kvs k).getD 0
/-- a dict that gives what the pairs give -/
def DicOf (kvs : List (List Key × D)) (ps : List (List Int × Int)) : Prop := ∀ k, valD kvs (kT k) = (look ps k).map PyData.int
theorem look_add (ps : List (List Int × Int)) (w k : List Int) (v : Int) (h : look ps w = none) : look (ps ++ [(w, v)]) k = if w = k then some v else look ps k := by
  unfold look at *
  rw [List.find?_append]
  cases e : ps.find? fun p => p.1 == k with
  | none =>
    by_cases e2 : w = k
    · simp [e2]
    · simp [e2]
  | some q =>
    have hq := List.find?_some e
    have : ¬ w = k := by
      intro z
      rw [z, e] at h
      cases h
    simp [this]
theorem DicOf.put {kvs : List (List Key × D)} {ps : List (List Int × Int)} (h : DicOf kvs ps) (w : List Int) (v : Int) (hn : look ps w = none) : DicOf (putD kvs (kT w) (.int v)) (ps ++ [(w, v)]) := by
  intro k
  rw [val_put, look_add ps w k v hn, h k]
  by_cases e : w = k
  · rw [if_pos e, if_pos (by rw [e])]; rfl
  · rw [if_neg e, if_neg fun z => e (kT_inj z)]
theorem find_dT {kvs : List (List Key × D)} {ps : List (List Int × Int)} (h : DicOf kvs ps) (w : List Int) (v : Int) (hv : look ps w = some v) : findD (dT kvs) (eT w) = some (some (.int v)) := by
  have hval : valD kvs (kT w) = some (.int v) := by rw [h w, hv]; rfl
  cases kvs with
  | nil => cases hval
  | cons p r =>
    show (match toKeyT (eT w) with
      | some k => (undD toKeyT ((p :: r).map fun p : List Key × D => (keyTD p.1, p.2))).map fun ds => valD ds k
      | none => (toKey (eT w)).bind fun k => (undD toKey ((p :: r).map fun p : List Key × D => (keyTD p.1, p.2))).map fun ds => valD ds k) = _
    rw [toKeyT_T, undT_map]
    show some (valD (p :: r) (kT w)) = _
    rw [hval]
theorem dgetD_dT {kvs : List (List Key × D)} {ps : List (List Int × Int)} (h : DicOf kvs ps) (w : List Int) (v : Int) (hv : look ps w = some v) : dgetD (dT kvs) (eT w) = some (.int v) := by
  have := find_dT h w v hv
  unfold dgetD
  rw [this]
  rfl
end DL

set_option Elab.async false
set_option linter.all false
set_option maxRecDepth 100000
set_option maxHeartbeats 4000000
/-! DL33: dict comprehensions over words as plain functions. -/
namespace DL
open PySem PySem.Spec L2
variable {α : Type}
theorem dcLoop_map {k : D → M Unit} {ek ev : M D} {vs : List Nat} {G : Sg} (enc : α → D) (key : α → List Int) (val : α → Int) (hG : G.forget vs = G) : ∀ (xs : List α) (acc : List (List Key × D)),
    (∀ x ∈ xs, ∃ g2 g3 g4 : Sg, k (enc x) G = .ok () g2 ∧ ek g2 = .ok (eT (key x)) g3 ∧ ev g3 = .ok (.int (val x)) g4 ∧ g4.forget vs = G) → acc.length + xs.length ≤ sizeLine →
    dcLoop k yesM ek ev vs (xs.map enc) acc G = .ok (xs.foldl (fun a x => putD a (kT (key x)) (.int (val x))) acc) G
  | [], acc, _, _ => by
    show Res.ok acc (G.forget vs) = _
    rw [hG]; rfl
  | x :: r, acc, h, hz => by
    obtain ⟨g2, g3, g4, h1, h2, h3, h4⟩ := h x List.mem_cons_self
    rw [List.length_cons] at hz
    show goG (k (enc x)) _ G = _
    unfold goG
    rw [h1]
    show ((calmM ek) g2).bind _ = _
    have e2 : (calmM ek) g2 = .ok (eT (key x)) g3 := by unfold calmM; rw [h2]; rfl
    rw [e2]
    show ((calmM ev) g3).bind _ = _
    have e3 : (calmM ev) g3 = .ok (.int (val x)) g4 := by unfold calmM; rw [h3]; rfl
    rw [e3]
    show (match toKeyT (eT (key x)) with
      | some ks => if acc.length < sizeLine then afterM vs (dcLoop k yesM ek ev vs (r.map enc) (putD acc ks (.int (val x)))) else fun _ => .bad
      | none => fun _ => .bad) g4 = _
    rw [toKeyT_T]
    show (if acc.length < sizeLine then afterM vs (dcLoop k yesM ek ev vs (r.map enc) (putD acc (kT (key x)) (.int (val x)))) else fun _ => .bad) g4 = _
    rw [if_pos (by omega)]
    show dcLoop k yesM ek ev vs (r.map enc) (putD acc (kT (key x)) (.int (val x))) (g4.forget vs) = _
    have hl := len_put acc (kT (key x)) (.int (val x))
    rw [h4, dcLoop_map enc key val hG r _ (fun y hy => h y (List.mem_cons_of_mem _ hy)) (by omega)]
    rfl
theorem dcT {src : M (List D)} {k : D → M Unit} {ek ev : M D} {vs : List Nat} {g g1 : Sg} (enc : α → D) (key : α → List Int) (val : α → Int) (xs : List α) (hs : src g = .ok (xs.map enc) g1)
    (h : ∀ x ∈ xs, ∃ g2 g3 g4 : Sg, k (enc x) (g1.forget vs) = .ok () g2 ∧ ek g2 = .ok (eT (key x)) g3 ∧ ev g3 = .ok (.int (val x)) g4 ∧ g4.forget vs = g1.forget vs) (hz : xs.length ≤ sizeLine) :
    dcM src k yesM ek ev vs g = .ok (xs.foldl (fun a x => putD a (kT (key x)) (.int (val x))) []) (g1.forget vs) := by
  refine ev_bind hs ?_
  show dcLoop k yesM ek ev vs (xs.map enc) [] (g1.forget vs) = _
  exact dcLoop_map enc key val (forget_forget g1 vs) xs [] h (by simpa using hz)
theorem look_none {ps : List (List Int × Int)} {w : List Int} : look ps w = none ↔ w ∉ ps.map (·.1) := by
  unfold look
  rw [Option.map_eq_none_iff, List.find?_eq_none]
  constructor
  · intro h hm
    obtain ⟨q, hq, rfl⟩ := List.mem_map.mp hm
    exact h q hq (by simp)
  · intro h q hq e
    exact h (List.mem_map.mpr ⟨q, hq, by simpa using e⟩)
theorem look_some {ps : List (List Int × Int)} {w : List Int} (h : w ∈ ps.map (·.1)) : look ps w = some (lookZ ps w) := by
  cases e : look ps w with
  | none => exact absurd h (look_none.mp e)
  | some v => unfold lookZ; rw [e]; rfl
theorem DicOf.foldl (key : α → List Int) (val : α → Int) : ∀ (xs : List α) (kvs : List (List Key × D)) (ps : List (List Int × Int)), DicOf kvs ps → (ps.map (·.1) ++ xs.map key).Nodup → DicOf (xs.foldl (fun a x => putD a (kT (key x)) (.int (val x))) kvs) (ps ++ xs.map fun x => (key x, val x))
  | [], kvs, ps, h, _ => by simpa using h
  | x :: r, kvs, ps, h, hn => by
    have hf : look ps (key x) = none := look_none.mpr fun hm => by
      rw [List.map_cons] at hn
      exact (List.nodup_append.mp hn).2.2 _ hm _ List.mem_cons_self rfl
    have := DicOf.foldl key val r _ _ (h.put (key x) (val x) hf) (by simpa using hn)
    simpa using this
theorem DicOf.nil : DicOf [] [] := fun _ => rfl
theorem DicOf.one (w : List Int) (v : Int) : DicOf [(kT w, .int v)] [(w, v)] := DicOf.put DicOf.nil w v rfl
theorem zipD_map {β : Type} (xs : List α) (ys : List β) (f : α → D) (h : β → D) : zipL (xs.map f) (ys.map h) = (xs.zip ys).map fun p => PyData.tuple [f p.1, h p.2] := by
  unfold zipL
  induction xs generalizing ys with
  | nil => rfl
  | cons x r ih => cases ys with
    | nil => rfl
    | cons y s => simp [ih]
end DL

set_option Elab.async false
set_option linter.all false
set_option maxRecDepth 100000
set_option maxHeartbeats 4000000
/-! DL34: the dicts of a frame, evaluated. -/
namespace DL
open PySem PySem.Spec L2
variable {g g1 g2 : Sg}
theorem findV_T {g : Sg} {i : Nat} {kvs : List (List Key × D)} (h : g.sl[i]? = some (.ownT kvs)) (w : List Int) : findV g i (eT w) = some (valD kvs (kT w)) := by
  unfold findV
  rw [h]
  show (toKeyT (eT w)).map _ = _
  rw [toKeyT_T]
  rfl
theorem ev_dgetV {i : Nat} {f : M D} {k v : D} (hd : isDict g i = true) (hf : f g = .ok k g1) (hv : findV g1 i k = some (some v)) : dgetV i f g = .ok v g1 := by
  unfold dgetV
  rw [if_pos hd]
  refine ev_bind hf ?_
  rw [hv]
theorem ev_dget2V {i : Nat} {f l : M D} {k z : D} {o : Option D} (hd : isDict g i = true) (hf : f g = .ok k g1) (hl : l g1 = .ok z g2) (hv : findV g2 i k = some o) : dget2V i f l g = .ok (o.getD z) g2 := by
  unfold dget2V
  rw [if_pos hd]
  refine ev_bind hf (ev_bind hl ?_)
  rw [hv]
theorem ev_dputT {i : Nat} {fk fv : M D} {w : List Int} {v : D} {kvs : List (List Key × D)} (hv : fv g = .ok v g1) (hd : isDict g1 i = true) (hk : fk g1 = .ok (eT w) g2) (hs : g2.sl[i]? = some (.ownT kvs)) (hz : kvs.length < sizeLine) : dputM i fk fv g = .ok .next { g2 with sl := g2.sl.set i (.ownT (putD kvs (kT w) v)) } := by
  refine ev_bind hv ?_
  show (if isDict g1 i = true then _ else _) = _
  rw [if_pos hd]
  refine ev_bind hk ?_
  rw [hs]
  show (match toKeyT (eT w) with
    | some ks => if kvs.length < sizeLine then Res.ok Fl.next { g2 with sl := g2.sl.set i (.ownT (putD kvs ks v)) } else .bad
    | none => .bad) = _
  rw [toKeyT_T]
  show (if kvs.length < sizeLine then Res.ok Fl.next { g2 with sl := g2.sl.set i (.ownT (putD kvs (kT w) v)) } else .bad) = _
  rw [if_pos hz]
theorem ev_cons {f : M D} {r : M (List D)} {d : D} {ds : List D} (h : f g = .ok d g1) (h2 : r g1 = .ok ds g2) : consM f r g = .ok (d :: ds) g2 := ev_bind h (ev_bind h2 rfl)
theorem ev_star {f : M D} {r : M (List D)} {d : D} {xs ds : List D} (h : f g = .ok d g1) (hx : seqD d = some xs) (h2 : r g1 = .ok ds g2) : starM f r g = .ok (xs ++ ds) g2 := ev_bind h (ev_bind (by unfold liftO; rw [hx]) (ev_bind h2 rfl))
theorem ev_dats {f : M (List D)} {ds : List D} (h : f g = .ok ds g1) : datsM f g = .ok (ds.map .dat) g1 := ev_bind h rfl
theorem ev_lst {f : M (List D)} {ds : List D} (h : f g = .ok ds g1) : lstM f g = .ok (.list ds) g1 := ev_bind h rfl
theorem ev_guard {f : M (List D)} {ds : List D} (h : f g = .ok ds g1) (hz : ds.length ≤ sizeLine) : guardL f g = .ok ds g1 := ev_bind h (by rw [if_pos hz]; rfl)
theorem ev_tup {f : M (List D)} {ds : List D} (h : f g = .ok ds g1) (hz : ds.length ≤ sizeLine) : tupM f g = .ok (.tuple ds) g1 := ev_bind h (by rw [if_pos hz]; rfl)
theorem ev_srcA {h : List D → Option (List D)} {f : M (List D)} {ds xs : List D} (hf : f g = .ok ds g1) (hx : h ds = some xs) : srcA h f g = .ok xs g1 := ev_bind hf (by unfold liftO; rw [hx])
theorem ev_asB {f : M D} {b : Bool} (h : f g = .ok (.bool b) g1) : asB f g = .ok b g1 := ev_bind h rfl
end DL

set_option Elab.async false
set_option linter.all false
set_option maxRecDepth 100000
set_option maxHeartbeats 4000000
/-! DL35: comprehensions that may raise. -/
namespace DL
open PySem PySem.Spec L2
variable {α : Type}
theorem lcLoopX_map {k : D → M Unit} {c : M Bool} {e : M D} {vs : List Nat} {G : Sg} (enc : α → D) (p : α → Bool) (f : α → D) (rest : List D) : ∀ (xs : List α) (acc : List D), (∀ x ∈ xs, Turn1 k c e vs G (enc x) (p x) (f x)) → acc.length + xs.length ≤ sizeLine → lcLoopX k c e vs (xs.map enc ++ rest) acc G = lcLoopX k c e vs rest (acc ++ (xs.filter p).map f) G
  | [], acc, _, _ => by simp
  | x :: r, acc, h, hz => by
    obtain ⟨g2, g3, h1, h2, h3, h4⟩ := h x List.mem_cons_self
    rw [List.length_cons] at hz
    show goG (k (enc x)) _ G = _
    unfold goG
    rw [h1]
    show (c g2).bind _ = _
    rw [h2]
    cases hp : p x with
    | false =>
      show lcLoopX k c e vs (r.map enc ++ rest) acc (g3.forget vs) = _
      rw [h3 hp, lcLoopX_map enc p f rest r acc (fun y hy => h y (List.mem_cons_of_mem _ hy)) (by omega)]
      rw [List.filter_cons_of_neg (by simp [hp])]
    | true =>
      obtain ⟨g4, e4, hg4⟩ := h4 hp
      show (e g3).bind _ = _
      rw [e4]
      show pushM acc (f x) (fun acc' => afterM vs (lcLoopX k c e vs (r.map enc ++ rest) acc')) g4 = _
      unfold pushM
      rw [if_pos (by omega)]
      show lcLoopX k c e vs (r.map enc ++ rest) (acc ++ [f x]) (g4.forget vs) = _
      rw [hg4, lcLoopX_map enc p f rest r (acc ++ [f x]) (fun y hy => h y (List.mem_cons_of_mem _ hy)) (by rw [List.length_append]; simp; omega)]
      rw [List.filter_cons_of_pos (by simp [hp])]
      simp
theorem lcXT {src : M (List D)} {k : D → M Unit} {c : M Bool} {e : M D} {vs : List Nat} {g g1 : Sg} (enc : α → D) (xs : List α) (p : α → Bool) (f : α → D) (hs : src g = .ok (xs.map enc) g1) (h : ∀ x ∈ xs, Turn1 k c e vs (g1.forget vs) (enc x) (p x) (f x)) (hz : xs.length ≤ sizeLine) :
    lcXM src k c e vs g = .ok ((xs.filter p).map f) (g1.forget vs) := by
  refine ev_bind hs ?_
  show lcLoopX k c e vs (xs.map enc) [] (g1.forget vs) = _
  have := lcLoopX_map (k := k) (c := c) (e := e) (vs := vs) (G := g1.forget vs) enc p f [] xs [] h (by simpa using hz)
  rw [List.append_nil] at this
  rw [this]
  show Res.ok _ ((g1.forget vs).forget vs) = _
  rw [forget_forget]
  simp
/-- one that raises, all before it calm -/
theorem lcXR {src : M (List D)} {k : D → M Unit} {c : M Bool} {e : M D} {vs : List Nat} {g g1 g2 : Sg} {n : Str} {ct : Int} (enc : α → D) (xs ys : List α) (y : α) (p : α → Bool) (f : α → D) (hs : src g = .ok ((xs ++ y :: ys).map enc) g1) (h : ∀ x ∈ xs, Turn1 k c e vs (g1.forget vs) (enc x) (p x) (f x)) (hz : xs.length ≤ sizeLine) (hk : k (enc y) (g1.forget vs) = .ok () g2) (hc : c g2 = .exc n ct) :
    lcXM src k c e vs g = .exc n ct := by
  refine ev_bind hs ?_
  show lcLoopX k c e vs ((xs ++ y :: ys).map enc) [] (g1.forget vs) = _
  rw [List.map_append, lcLoopX_map (k := k) (c := c) (e := e) (vs := vs) (G := g1.forget vs) enc p f _ xs [] h (by simpa using hz)]
  show goG (k (enc y)) _ (g1.forget vs) = _
  unfold goG
  rw [hk]
  show (c g2).bind _ = _
  rw [hc]
  rfl
end DL

set_option Elab.async false
set_option linter.all false
set_option maxRecDepth 100000
set_option maxHeartbeats 4000000
/-! DL36: data whose repr is in reach. -/
namespace DL
open PySem PySem.Spec L2
def okT (x : Str) : Prop := ∀ c ∈ x.cps.toList, c < 0x110000
theorem okT_app {a b : Str} (ha : okT a) (hb : okT b) : okT (a ++ b) := by
  intro c hc
  have hc : c ∈ (a.cps ++ b.cps).toList := hc
  rw [Array.toList_append] at hc
  exact (List.mem_append.mp hc).elim (ha c) (hb c)
theorem okT_join : ∀ ts : List Str, (∀ t ∈ ts, okT t) → okT (Str.join ", " ts)
  | [], _ => by intro c hc; cases hc
  | [x], h => h x (List.mem_singleton.mpr rfl)
  | x :: y :: r, h => okT_app (okT_app (h x List.mem_cons_self) (by unfold okT; decide +kernel)) (okT_join (y :: r) fun t ht => h t (List.mem_cons_of_mem _ ht))
theorem okT_strOk {x : Str} (h : okT x) : PyData.strOk x = true := by
  unfold PyData.strOk
  rw [← Array.all_toList, List.all_eq_true]
  intro c hc
  exact decide_eq_true (h c hc)
structure Nice (k n : Nat) (d : D) : Prop where
  s : d.showable = true
  c : d.canLay0 = true
  l : d.leavesShort 13 = true
  t : okT d.shown
  dp : d.depth ≤ k
  w : d.weight ≤ n
theorem Nice.mono {k n k' n' : Nat} {d : D} (h : Nice k n d) (hk : k ≤ k') (hn : n ≤ n') : Nice k' n' d := ⟨h.s, h.c, h.l, h.t, Nat.le_trans h.dp hk, Nat.le_trans h.w hn⟩
def niceB (d : D) : Bool := d.showable && d.canLay0 && d.leavesShort 13 && d.shown.cps.toList.all (fun c => decide (c < 0x110000)) && decide (d.depth ≤ 0) && decide (d.weight ≤ 20)
theorem nice_of {d : D} (h : niceB d = true) : Nice 0 20 d := by
  unfold niceB at h
  simp only [Bool.and_eq_true] at h
  obtain ⟨⟨⟨⟨⟨h1, h2⟩, h3⟩, h4⟩, h5⟩, h6⟩ := h
  exact ⟨h1, h2, h3, fun c hc => of_decide_eq_true (List.all_eq_true.mp h4 c hc), of_decide_eq_true h5, of_decide_eq_true h6⟩
theorem nice_ints : ∀ k ∈ List.range 201, niceB (.int ((k : Int) - 100)) = true := by decide +kernel
theorem Nice.int {i : Int} (h1 : -100 ≤ i) (h2 : i ≤ 100) : Nice 0 20 (.int i) := by
  have := nice_ints (i + 100).toNat (List.mem_range.mpr (by omega))
  have e : (((i + 100).toNat : Nat) : Int) - 100 = i := by omega
  rw [e] at this
  exact nice_of this
theorem Nice.bool (b : Bool) : Nice 0 20 (.bool b) := by cases b <;> exact nice_of (by decide +kernel)
theorem Nice.none : Nice 0 20 .none := nice_of (by decide +kernel)
theorem nice_all {k n : Nat} : ∀ xs : List D, (∀ x ∈ xs, Nice k n x) → PyData.showableAll xs = true ∧ PyData.canLayAll0 xs = true ∧ PyData.leavesShortAll 13 xs = true ∧ (∀ t ∈ PyData.shownAll xs, okT t) ∧ PyData.depthAll xs ≤ k ∧ PyData.weightAll xs ≤ xs.length * (n + 1)
  | [], _ => ⟨rfl, rfl, rfl, (fun t ht => by cases ht), Nat.zero_le _, Nat.zero_le _⟩
  | x :: r, h => by
    obtain ⟨h1, h2, h3, h4, h5, h6⟩ := nice_all r fun y hy => h y (List.mem_cons_of_mem _ hy)
    have hx := h x List.mem_cons_self
    refine ⟨?_, ?_, ?_, fun t ht => ?_, ?_, ?_⟩
    · show (x.showable && PyData.showableAll r) = true
      rw [hx.s, h1]; rfl
    · show (x.canLay0 && PyData.canLayAll0 r) = true
      rw [hx.c, h2]; rfl
    · show (x.leavesShort 13 && PyData.leavesShortAll 13 r) = true
      rw [hx.l, h3]; rfl
    · rw [PyData.shownAll_cons] at ht
      rcases List.mem_cons.mp ht with rfl | ht
      · exact hx.t
      · exact h4 t ht
    · show max x.depth (PyData.depthAll r) ≤ k
      exact Nat.max_le.mpr ⟨hx.dp, h5⟩
    · show x.weight + 1 + PyData.weightAll r ≤ (r.length + 1) * (n + 1)
      have := hx.w
      rw [Nat.succ_mul]
      omega
theorem Nice.list {k n L : Nat} {xs : List D} (h : ∀ x ∈ xs, Nice k n x) (hl : xs.length ≤ L) : Nice (k + 1) (L * (n + 1)) (.list xs) := by
  obtain ⟨h1, h2, h3, h4, h5, h6⟩ := nice_all xs h
  refine ⟨h1, h2, h3, ?_, Nat.succ_le_succ h5, Nat.le_trans h6 (Nat.mul_le_mul_right _ hl)⟩
  rw [PyData.shown_list]
  exact okT_app (okT_app (by unfold okT; decide +kernel) (okT_join _ h4)) (by unfold okT; decide +kernel)
theorem Nice.tuple {k n L : Nat} {xs : List D} (h : ∀ x ∈ xs, Nice k n x) (hl : xs.length ≤ L) : Nice (k + 1) (L * (n + 1)) (.tuple xs) := by
  obtain ⟨h1, h2, h3, h4, h5, h6⟩ := nice_all xs h
  refine ⟨h1, h2, h3, ?_, Nat.succ_le_succ h5, Nat.le_trans h6 (Nat.mul_le_mul_right _ hl)⟩
  rw [PyData.shown_tuple]
  refine okT_app (okT_app (by unfold okT; decide +kernel) (okT_join _ h4)) ?_
  split
  · unfold okT; decide +kernel
  · unfold okT; decide +kernel
theorem Nice.word {w : List Int} {L : Nat} (h : ∀ x ∈ w, -100 ≤ x ∧ x ≤ 100) (hl : w.length ≤ L) : Nice 1 (L * 21) (eT w) := by
  refine Nice.tuple (k := 0) (n := 20) (fun x hx => ?_) (by rw [List.length_map]; exact hl)
  obtain ⟨i, hi, rfl⟩ := List.mem_map.mp hx
  exact Nice.int (h i hi).1 (h i hi).2
/-- what the law's def that asks whether two things have one repr does, if they are the same -/
theorem repr_nice {d : D} (h : Nice 40 1000000 d) : reprD [.list [d]] = some (.str (PyData.list [d]).shown) ∧ eqD (.str (PyData.list [d]).shown) (.str (PyData.list [d]).shown) = some (.bool true) := by
  have hn := Nice.list (k := 40) (n := 1000000) (L := 1) (xs := [d]) (fun x hx => by obtain rfl := List.mem_singleton.mp hx; exact h) (Nat.le_refl _)
  have hw : (PyData.list [d]).weight ≤ 2 ^ 20 := Nat.le_trans hn.w (by decide)
  constructor
  · show (if _ then some (PyData.str (PyData.list [d]).shown) else Option.none) = _
    exact if_pos ⟨rfl, hn.s, hn.c, Nat.le_trans hn.dp (by decide), PyData.shown_fits (B := 13) (by decide) (by decide) hn.l hw⟩
  · have hs : SeqAt.shaped (.str (PyData.list [d]).shown) = true := by
      show (PyData.strOk _ && decide (PyData.depth (.str _) ≤ 64)) = true
      rw [okT_strOk hn.t]
      rfl
    unfold eqD
    rw [if_pos ⟨hs, hs⟩]
    show some (PyData.bool ((PyData.list [d]).shown == (PyData.list [d]).shown)) = _
    simp
end DL

set_option Elab.async false
set_option linter.all false
set_option maxRecDepth 100000
set_option maxHeartbeats 4000000
/-! DL37: items of lists stored, lists by range, ranges downwards, sorts of ints. -/
namespace DL
open PySem PySem.Spec L2 StX
open PyProof.Rows hiding St
section
variable {C : Ctx}
/-- xs[i] = e -/
def lputM (i : Nat) (fk fv : M D) : M Fl := bindM fv fun v => fun g => match g.sl[i]? with
  | some (.own _) => bindM fk (fun k g' => match g'.sl[i]?, k with
    | some (.own xs), .int j => (match L2.ixN xs.length j with
      | some n => .ok .next { g' with sl := g'.sl.set i (.own (xs.set n v)) }
      | none => .bad)
    | _, _ => .bad) g
  | _ => .bad
theorem satS_lput {i : Nat} {tk te : TE} {fk fv : M D} (hk : Sat C tk fk) (hv : Sat C te fv) : SatS C (tAsg te (gSub (tVar i) tk rSetL)) (lputM i fk fv) := by
  intro N σ H B g E R q
  refine hv.toS R q fun d g1 v H1 B1 _ R1 L1 rp1 q1 => ?_
  cases e : g1.sl[i]? with
  | none => simp only [e] at q1; exact q1.elim
  | some s =>
    simp only [e] at q1
    cases s with
    | own ys =>
      obtain ⟨a, us, ea, na, ha, _⟩ := R1.slots i _ e
      refine ⟨_, getD_some ea, ?_⟩
      refine hk.toS R1 (FinS.le L1 q1) fun k g2 v2 H2 B2 _ R2 L2 rp2 q2 => ?_
      cases e2 : g2.sl[i]? with
      | none => simp only [e2] at q2; exact q2.elim
      | some s2 =>
        simp only [e2] at q2
        cases s2 with
        | own xs =>
          cases rp2 with
          | int j =>
            obtain ⟨a', vs, ea', na', ha', ra'⟩ := R2.slots i _ e2
            rw [ea] at ea'
            cases ea'
            simp only [] at q2
            cases e4 : ixN xs.length j with
            | none => simp only [e4] at q2; exact q2.elim
            | some n =>
              simp only [e4] at q2
              refine ⟨a, vs, j, n, rfl, rfl, ha', by rw [ra'.length]; exact e4, ?_⟩
              exact q2 σ _ B2 (R2.write e2 rfl (getD_some ea) na' ⟨a, _, rfl, na', upd_same, ra'.set n (rp1.le L2)⟩) L2
          | _ => exact q2.elim
        | _ => exact q2.elim
    | _ => exact q1.elim
/-- [..] * n, a list that nobody else knows -/
def repD (d y : D) : Option (List D) := match d, y with
  | .list xs, .int n => if -(2 ^ 63) ≤ n ∧ n < 2 ^ 63 ∧ xs.length * n.toNat ≤ sizeLine then some (List.replicate n.toNat xs).flatten else none
  | _, _ => none
def repF (f k : M D) : M (List D) := bindM f fun d => bindM k fun y => liftO (repD d y)
theorem satF_rep {ta tb : TE} {f k : M D} (ha : Sat C ta f) (hb : Sat C tb k) : SatF C (tOp rRep ta tb) (repF f k) := by
  intro N σ H B g Q R q
  refine ha.run (P := fun x => FinF C N σ B x Q) R q (fun n ct z => z) (fun z => z) fun d g1 v H1 B1 _ R1 L1 rp1 q1 => ?_
  refine hb.run (P := fun x => FinF C N σ B x Q) R1 q1 (fun n ct z => z) (fun z => z) fun y g2 v2 H2 B2 _ R2 L2 rp2 q2 => ?_
  have rp1 := rp1.le L2
  cases rp1 with
  | @lst a ws xs hb1 rr =>
    cases rp2 with
    | int n =>
      by_cases hn : -(2 ^ 63) ≤ n ∧ n < 2 ^ 63 ∧ xs.length * n.toNat ≤ sizeLine
      · have e : repD (.list xs) (.int n) = some (List.replicate n.toNat xs).flatten := if_pos hn
        unfold liftO at q2
        simp only [e] at q2
        refine ⟨_, n, _, rfl, rfl, R2.sub _ _ hb1, hn.1, hn.2.1, by rw [rr.length]; exact hn.2.2, fun p hp => ?_⟩
        exact q2 p _ _ B2 (R2.newl hp) (L1.trans L2) (R2.sub_none hp) upd_same (rr.rep n.toNat) (R2.fresh hp) fun j hj => R2.free_own hp j hj
      · have e : repD (.list xs) (.int n) = none := if_neg hn
        unfold liftO at q2
        simp only [e] at q2
        exact q2.elim
    | _ => exact q2.elim
  | _ => exact q2.elim
/-- range(a, b, -1) -/
def rng3 (ds : List D) : Option (List D) := match ds with
  | [.int i, .int j, .int c] => if c = -1 ∧ -(2 ^ 62) ≤ i ∧ i < 2 ^ 62 ∧ -(2 ^ 62) ≤ j ∧ j < 2 ^ 62 then some ((List.range (i - j).toNat).map fun k : Nat => PyData.int (i + (k : Int) * -1)) else none
  | _ => none
theorem rng3_some {ds xs : List D} (h : rng3 ds = some xs) : ∃ i j : Int, ds = [.int i, .int j, .int (-1)] ∧ (-(2 ^ 62) ≤ i ∧ i < 2 ^ 62 ∧ -(2 ^ 62) ≤ j ∧ j < 2 ^ 62) ∧ xs = (List.range (i - j).toNat).map fun k : Nat => PyData.int (i + (k : Int) * -1) := by
  unfold rng3 at h
  split at h
  · rename_i i j c
    obtain ⟨⟨rfl, b⟩, rfl⟩ := if_some h
    exact ⟨i, j, rfl, b, rfl⟩
  · cases h
theorem walk_down {B : Hp} {lo : Int} {n : Nat} : Walk C (Itc lo (-1) n) B ((List.range n).map fun k : Nat => PyData.int (lo + (k : Int) * -1)) where
  go := fun i H hi _ => by
    rw [List.length_map, List.length_range] at hi
    exact hi
  stop := fun H _ => by
    rw [List.length_map, List.length_range]
    exact Nat.le_refl n
  yld := fun i H x H' B2 d hy hd L1 L2 => by
    obtain ⟨rfl, rfl⟩ := hy
    have hi : i < n := by
      have := (List.getElem?_eq_some_iff.mp hd).1
      simpa using this
    have e : d = .int (lo + (i : Int) * -1) := by
      rw [List.getElem?_map, List.getElem?_range hi] at hd
      exact (Option.some.inj hd).symm
    subst e
    exact ⟨B2, .refl, .int _⟩
theorem satI_rng3 {ta : TA} {f : M (List D)} (h : SatA C ta f) : SatI C (iRng3 ta) (srcA rng3 f) := by
  intro N σ H B g R Rr q
  refine h.run (P := fun x => FinI C N σ B x R) Rr q (fun n ct z => z) (fun z => z) fun ds g1 vs H1 B1 _ R1 L1 rp1 q1 => ?_
  obtain ⟨xs, e, q1⟩ := finI_lift q1
  obtain ⟨i, j, rfl, ⟨b1, b2, b3, b4⟩, rfl⟩ := rng3_some e
  cases rp1 with
  | cons r1 s1 =>
    cases s1 with
    | cons r2 s2 =>
      cases s2 with
      | cons r3 s3 =>
        cases s3
        cases r1
        cases r2
        cases r3
        exact ⟨i, j, -1, _, rfl, RgC.neg b1 b2 b3 b4, q1 _ H1 B1 R1 L1 walk_down⟩
/-- min(a, b) -/
def min2D (ds : List D) : Option D := match ds with
  | [.int i, .int j] => some (.int (if j < i then j else i))
  | _ => none
theorem vn_min2 : VN C (fun xs H Q => ∃ i j : Int, xs = [.int i, .int j] ∧ Q (.int (if j < i then j else i)) H) min2D := by
  intro H B xs ds d Q L r e q
  unfold min2D at e
  split at e
  · rename_i i j
    cases e
    cases r with
    | cons r1 s1 =>
      cases s1 with
      | cons r2 s2 =>
        cases s2
        cases r1
        cases r2
        exact ⟨i, j, rfl, q _ H B .refl (.int _)⟩
  · cases e
theorem v2_ipsub : V2 C (ipI fun i j => i - j) (i2D (fun _ _ => true) fun i j => .int (i - j)) := by
  intro H B x y dx dy d Q L rx ry e q
  cases rx with
  | int i =>
    cases ry with
    | int j => cases e; exact ⟨i, j, rfl, rfl, q _ H B .refl (.int _)⟩
    | _ => cases e
  | _ => cases e
/-- // of great ints, the divisor above 0 -/
def fdivWD := i2D (fun _ j => decide (0 < j ∧ j.natAbs.log2 < 9000)) fun i j => .int (i / j)
theorem v2_fdivW : V2 C (rI CDivW fun i j => .int (i / j)) fdivWD := v2_int (fun i j h => (of_decide_eq_true h : 0 < j ∧ j.natAbs.log2 < 9000)) fun _ _ _ _ => .int _
/-! sorted -/
def ins (x : Int) : List Int → List Int
  | [] => [x]
  | y :: r => if x ≤ y then x :: y :: r else y :: ins x r
def isort : List Int → List Int
  | [] => []
  | x :: r => ins x (isort r)
theorem ins_perm (x : Int) : ∀ l : List Int, (ins x l).Perm (x :: l)
  | [] => .refl _
  | y :: r => by
    unfold ins
    split
    · exact .refl _
    · exact ((ins_perm x r).cons y).trans (.swap x y r)
theorem isort_perm : ∀ l : List Int, (isort l).Perm l
  | [] => .refl _
  | x :: r => (ins_perm x _).trans ((isort_perm r).cons x)
theorem ins_mem {x : Int} {l : List Int} {z : Int} : z ∈ ins x l ↔ z = x ∨ z ∈ l := by
  rw [(ins_perm x l).mem_iff]
  exact List.mem_cons
theorem ins_sorted (x : Int) : ∀ l : List Int, l.Pairwise (· ≤ ·) → (ins x l).Pairwise (· ≤ ·)
  | [], _ => by simp [ins]
  | y :: r, h => by
    obtain ⟨h1, h2⟩ := List.pairwise_cons.mp h
    unfold ins
    split
    · rename_i hxy
      refine List.pairwise_cons.mpr ⟨fun z hz => ?_, h⟩
      rcases List.mem_cons.mp hz with rfl | hz
      · exact hxy
      · exact Int.le_trans hxy (h1 z hz)
    · rename_i hxy
      refine List.pairwise_cons.mpr ⟨fun z hz => ?_, ins_sorted x r h2⟩
      rcases ins_mem.mp hz with rfl | hz
      · omega
      · exact h1 z hz
theorem isort_sorted : ∀ l : List Int, (isort l).Pairwise (· ≤ ·)
  | [] => .nil
  | x :: r => ins_sorted x _ (isort_sorted r)
theorem sorted_uniq : ∀ {l m : List Int}, l.Perm m → l.Pairwise (· ≤ ·) → m.Pairwise (· ≤ ·) → l = m
  | [], m, p, _, _ => (List.nil_perm.mp p).symm
  | x :: l, [], p, _, _ => absurd p.length_eq (by simp)
  | x :: l, y :: m, p, h1, h2 => by
    obtain ⟨a1, a2⟩ := List.pairwise_cons.mp h1
    obtain ⟨b1, b2⟩ := List.pairwise_cons.mp h2
    have hxy : x = y := by
      have m1 : x ∈ y :: m := p.mem_iff.mp List.mem_cons_self
      have m2 : y ∈ x :: l := p.mem_iff.mpr List.mem_cons_self
      rcases List.mem_cons.mp m1 with e | m1
      · exact e
      · rcases List.mem_cons.mp m2 with e | m2
        · exact e.symm
        · exact Int.le_antisymm (a1 y m2) (b1 x m1)
    subst hxy
    rw [sorted_uniq ((List.perm_cons x).mp p) a2 b2]
theorem isort_uniq {l m : List Int} (p : l.Perm m) (h : l.Pairwise (· ≤ ·)) : l = isort m := sorted_uniq (p.trans (isort_perm m).symm) h (isort_sorted m)
def sortedD (ds : List D) : Option D := match ds with
  | [.list xs] => (intsD xs).map fun ns => .list ((isort ns).map PyData.int)
  | _ => none
theorem vn_sortedI : VN C (rSortedI C.K) sortedD := by
  intro H B xs ds d Q L r e q
  unfold sortedD at e
  split at e
  · rename_i ys
    cases e1 : intsD ys with
    | none => rw [e1] at e; cases e
    | some ns =>
      rw [e1] at e
      cases e
      obtain rfl := intsD_some e1
      obtain ⟨v, rfl, rp⟩ := r.one_of
      cases rp with
      | lst hb rr =>
        have ev := rr.of_ints
        subst ev
        refine ⟨_, ns, rfl, SqL.of (L _ _ hb), fun ns' p hp hs hn => ?_⟩
        rw [isort_uniq hp hs]
        have G := Grow.upd (o := .lst ((isort ns).map V.int)) hn L
        exact q _ _ _ G (.lst upd_same (Rps.ints _))
  · cases e
/-! list(range(n)), tuple(range(n)) -/
def lrgD (d : D) : Option (List D) := match d with
  | .int n => if 0 ≤ n ∧ n ≤ 16777216 then some (rangeL 0 n.toNat) else none
  | _ => none
def lrgF (f : M D) : M (List D) := bindM f fun d => liftO (lrgD d)
theorem rgV_rps {K : PySem.W.Frag} {B : Hp} (n : Int) : Rps K B (rgV 0 n) (rangeL 0 n.toNat) := by
  unfold rgV rangeL
  rw [Int.sub_zero]
  induction List.range n.toNat with
  | nil => exact .nil
  | cons k r ih => exact .cons (.int _) ih
theorem lrgD_some {d : D} {xs : List D} (h : lrgD d = some xs) : ∃ n : Int, d = .int n ∧ 0 ≤ n ∧ n ≤ 16777216 ∧ xs = rangeL 0 n.toNat := by
  unfold lrgD at h
  split at h
  · obtain ⟨b, rfl⟩ := if_some h
    exact ⟨_, rfl, b.1, b.2, rfl⟩
  · cases h
theorem satF_lrg {ta : TE} {f : M D} (ha : Sat C ta f) : SatF C (tLstRg (tRg1 ta)) (lrgF f) := by
  intro N σ H B g Q R q
  refine ha.run (P := fun x => FinF C N σ B x Q) R q (fun n ct z => z) (fun z => z) fun d g1 v H1 B1 _ R1 L1 rp1 q1 => ?_
  cases e : lrgD d with
  | none =>
    unfold liftO at q1
    simp only [e] at q1
    exact q1.elim
  | some xs =>
    unfold liftO at q1
    simp only [e] at q1
    obtain ⟨n, rfl, h0, h1, rfl⟩ := lrgD_some e
    cases rp1
    refine ⟨n, rfl, RgOk.of_le (by decide) h1 (by decide) h0, fun p hp => ?_⟩
    exact q1 p _ _ B1 (R1.newl hp) L1 (R1.sub_none hp) upd_same (rgV_rps n) (R1.fresh hp) fun j hj => R1.free_own hp j hj
def trgM (f : M D) : M D := bindM f fun d => bindM (liftO (lrgD d)) fun xs => pureM (.tuple xs)
theorem sat_trg {ta : TE} {f : M D} (ha : Sat C ta f) : Sat C (tTupRg (tRg1 ta)) (trgM f) := by
  intro N σ H B g Q R q
  refine ha.run (P := fun x => Fin C N σ B x Q) R q (fun n ct z => z) (fun z => z) fun d g1 v H1 B1 _ R1 L1 rp1 q1 => ?_
  have q1 : Fin C N σ B (((liftO (lrgD d)) g1).bind fun xs => pureM (.tuple xs)) Q := q1
  cases e : lrgD d with
  | none =>
    unfold liftO at q1
    simp only [e] at q1
    exact q1.elim
  | some xs =>
    unfold liftO at q1
    simp only [e] at q1
    obtain ⟨n, rfl, h0, h1, rfl⟩ := lrgD_some e
    cases rp1
    refine ⟨n, rfl, RgOk.of_le (by decide) h1 (by decide) h0, fun p hp => ?_⟩
    have G := Grow.upd (o := .tup (rgV 0 n)) hp R1.sub
    exact q1 _ _ _ (R1.grow G) (L1.trans G.b) (.tup upd_same (rgV_rps n))
end
end DL

set_option Elab.async false
set_option linter.all false
set_option maxRecDepth 100000
set_option maxHeartbeats 4000000
/-! DL38: dicts whose keys are ints or texts: made, counted, sorted; two names at once, the second a list of its own. -/
namespace DL
open PySem PySem.Spec L2 StX
open PyProof.Rows hiding St
/-- what follows a dict that nobody else knows -/
def FinK (C : Ctx) (N : An) (σ : St) (B : Hp) (r : Res (List (Key × D))) (Q : VK) : Prop := match r with
  | .ok xs g => ∀ p vs H' B', Rep C N σ H' B' g → Le B B' → B' p = none → H' p = some (.dK vs) → RpsK C.K B' vs xs → N.H0 p = none → (∀ j : Nat, ownAt g.sl j → σ[j]? ≠ some (some (.ref p))) → Q (.ref p) H'
  | .exc n ct => ∀ cl H' B', Rep C N σ H' B' ⟨σ.map fun _ => Slot.no, ct⟩ → C.mg n = some (.ref cl) → C.E σ (.ref cl) none H'
  | .bad => False
def SatK (C : Ctx) (t : TE) (f : M (List (Key × D))) : Prop := ∀ N σ H B g (Q : VK), Rep C N σ H B g → FinK C N σ B (f g) Q → t σ H Q
section
variable {C : Ctx}
def asgK (f : M (List (Key × D))) (i : Nat) : M Fl := bindM f fun xs => fun g => .ok .next { g with sl := g.sl.set i (.ownK xs) }
theorem satS_asgK {te : TE} {f : M (List (Key × D))} {i : Nat} (h : SatK C te f) : SatS C (tAsg te (gName i)) (asgK f i) := by
  intro N σ H B g E R q
  refine h N σ H B g _ R ?_
  have q : FinS C N B ((f g).bind fun xs => fun g => .ok .next { g with sl := g.sl.set i (.ownK xs) }) E := q
  cases e : f g with
  | ok xs g1 =>
    rw [e] at q
    intro p vs H1 B1 R1 L n hH r h0 hs
    exact q _ H1 B1 (R1.setOwn i (s := .ownK xs) ⟨p, vs, rfl, n, hH, r⟩ h0 hs) L
  | exc n ct => rw [e] at q; exact fun cl H1 B1 => q cl σ H1 B1
  | bad => rw [e] at q; exact q.elim
theorem satK_new : SatK C tDNewK (pureM []) := fun N σ H B g Q R q p hp =>
  q p [] _ B (R.newl hp) (.refl _) (R.sub_none hp) upd_same .nil (R.fresh hp) fun j hj => R.free_own hp j hj
/-! {k: v for ..} -/
def dkLoop (k : D → M Unit) (c : M Bool) (ek ev : M D) (vs : List Nat) : List D → List (Key × D) → M (List (Key × D))
  | [], acc => afterM vs (pureM acc)
  | x :: r, acc => goG (k x) (bindM (calmM c) fun b => if b = true then (bindM (calmM ek) fun kd => bindM (calmM ev) fun vd => match toKey kd with
    | some ks => if acc.length < sizeLine then afterM vs (dkLoop k c ek ev vs r (putD acc ks vd)) else fun _ => .bad
    | none => fun _ => .bad) else afterM vs (dkLoop k c ek ev vs r acc))
def dkM (src : M (List D)) (k : D → M Unit) (c : M Bool) (ek ev : M D) (vs : List Nat) : M (List (Key × D)) := bindM src fun xs => afterM vs (dkLoop k c ek ev vs xs [])
structure DkS (C : Ctx) (N : An) (τ : St) (p : Addr) (B1 : Hp) (H B : Hp) (g : Sg) (acc : List (Key × D)) : Prop where
  rep : Rep C N τ H B g
  le : Le B1 B
  own : ∀ j : Nat, ownAt g.sl j → τ[j]? ≠ some (some (.ref p))
  no : B p = none
  dct : ∃ av, H p = some (.dK av) ∧ RpsK C.K B av acc
theorem DkS.back {N : An} {τ σ' : St} {p : Addr} {B1 H B : Hp} {g : Sg} {acc : List (Key × D)} (h : DkS C N τ p B1 H B g acc) (vs : List Nat) (hl : σ'.length = τ.length) (he : ∀ j : Nat, j ∉ vs → σ'[j]? = τ[j]?) : DkS C N σ' p B1 H B (g.forget vs) acc :=
  ⟨h.rep.other vs hl he, h.le, fun j hj => by
    obtain ⟨a, b⟩ := ownAt_forget hj
    rw [he j a]; exact h.own j b, h.no, h.dct⟩
theorem satK_dc {wi : TI} {tg : TG} {tt : TT} {tk tv : TE} {vs ts : List Nat} {src : M (List D)} {k : D → M Unit} {c : M Bool} {ek ev : M D} (hs : SatI C wi src) (hg : SatG C.q ts tg k) (hc : SatT C.q tt c) (hk : Sat C.q tk ek) (he : Sat C.q tv ev) (hv : ∀ j, j ∈ ts → j ∈ vs) :
    SatK C (tDc wi tg tt tk tv vs) (dkM src k c ek ev vs) := by
  intro N σ H B g Q R q
  refine hs N σ H B g _ R ?_
  have q : FinK C N σ B ((src g).bind fun xs => afterM vs (dkLoop k c ek ev vs xs [])) Q := q
  cases es : src g with
  | exc n ct => rw [es] at q; exact q
  | bad => rw [es] at q; exact q.elim
  | ok xs g1 =>
    rw [es] at q
    intro J H1 B1 R1 L1 W p hp
    have h0 : N.H0 p = none := R1.fresh hp
    have wl : (wipe σ vs).length = σ.length := wipe_length σ vs
    have S0 : DkS C N (wipe σ vs) p B1 (upd H1 p (.dK [])) B1 (g1.forget vs) [] := by
      refine ⟨(R1.newl (o := .dK []) hp).wipe vs, .refl _, fun j hj => ?_, R1.sub_none hp, [], upd_same, .nil⟩
      obtain ⟨a, b⟩ := ownAt_forget hj
      rw [wipe_off a]; exact R1.free_own hp j b
    refine ⟨fun i m H' => ∃ B' g' acc, i ≤ xs.length ∧ m = xs.length - i ∧ DkS C N (wipe σ vs) p B1 H' B' g' acc ∧ FinK C N σ B (dkLoop k c ek ev vs (xs.drop i) acc g') Q, ⟨xs.length, B1, g1.forget vs, [], Nat.zero_le _, rfl, S0, q⟩, ?_⟩
    rintro i m H2 ⟨B2, g2, acc, hi, rfl, S, q2⟩
    obtain ⟨R2, L2, o2, n2, av, hH2, ra⟩ := id S
    by_cases hlt : i < xs.length
    · have hd : xs.drop i = xs[i] :: xs.drop (i + 1) := List.drop_eq_getElem_cons hlt
      rw [hd] at q2
      refine .inr ⟨W.go i H2 hlt (fun a o z => R2.sub a o (L2 a o z)), fun H' => ∃ B' g' acc, DkS C N (wipe σ vs) p B1 H' B' g' acc ∧ FinK C N σ B (dkLoop k c ek ev vs (xs.drop (i + 1)) acc g') Q, fun H' ⟨B', g', acc', z1, z2⟩ => ⟨_, Nat.sub_lt_sub_left hlt (Nat.lt_succ_self i), B', g', acc', hlt, rfl, z1, z2⟩, fun x H3 y => ?_⟩
      obtain ⟨B3, G, rp⟩ := W.yld i H2 x H3 B2 xs[i] y (by simp [hlt]) L2 R2.sub
      refine hg.turn (P := fun x => FinK C N σ B x Q) (R2.grow G) rp (G.h _ _ hH2) (G.apart n2 hH2) h0 o2 (fun z => z) q2 fun g4 σ4 H4 B4 R4 L4 l4 e4 hH4 n4 o4 q4 => ?_
      have off : ∀ j : Nat, j ∉ vs → σ4[j]? = σ[j]? := fun j hj => (e4 j fun z => hj (hv j z)).trans (wipe_off hj)
      have len4 : σ4.length = σ.length := l4.trans wl
      refine ⟨wipe_eq vs len4 off, ?_⟩
      have off' : ∀ j : Nat, j ∉ vs → (wipe σ vs)[j]? = σ4[j]? := fun j hj => (wipe_off hj).trans (off j hj).symm
      have len4' : (wipe σ vs).length = σ4.length := wl.trans len4.symm
      refine hc.turn (P := fun x => FinK C N σ B x Q) R4 hH4 n4 h0 o4 (fun z => z) q4 fun b g5 H5 B5 R5 L5 hH5 n5 o5 q5 => ?_
      have LL : Le B2 B5 := (G.b.trans L4).trans L5
      cases b with
      | false => exact ⟨B5, _, acc, (DkS.mk R5 (L2.trans LL) o5 n5 ⟨av, hH5, ra.le LL⟩).back vs len4' off', q5⟩
      | true =>
        refine hk.turn (P := fun x => FinK C N σ B x Q) R5 hH5 n5 h0 o5 (fun z => z) q5 fun kd g6 v H6 B6 R6 L6 rp6 hH6 n6 o6 q6 => ?_
        refine he.turn (P := fun x => FinK C N σ B x Q) R6 hH6 n6 h0 o6 (fun z => z) q6 fun vd g7 w H7 B7 R7 L7 rp7 hH7 n7 o7 q7 => ?_
        cases ek' : toKey kd with
        | none => simp only [ek'] at q7; exact q7.elim
        | some ks =>
          simp only [ek'] at q7
          obtain rfl := toKey_some ek'
          by_cases hz : acc.length < sizeLine
          · simp only [hz, if_true] at q7
            have ra7 := ra.le ((LL.trans L6).trans L7)
            have ev : v = kV ks := by
              cases ks with
              | inl i => cases rp6; rfl
              | inr x => cases rp6; rfl
            refine ⟨av, ks, ev, hH7, by rw [ra.pd.length]; exact hz, B7, _, putD acc ks vd, ?_, q7⟩
            exact (DkS.mk (R7.mut n7 h0 o7) ((L2.trans LL).trans (L6.trans L7)) o7 n7 ⟨_, upd_same, (ra7.pd.put rp7 ks).toK⟩).back vs len4' off'
          · simp only [hz, if_false] at q7; exact q7.elim
    · have hi' : i = xs.length := by omega
      subst hi'
      rw [List.drop_length] at q2
      obtain ⟨R3, L3, o3, n3, av3, hH3, rp3⟩ := S.back vs wl.symm (fun j hj => (wipe_off hj).symm)
      exact .inl ⟨W.stop H2 (fun a o z => R2.sub a o (L2 a o z)), q2 p av3 H2 B2 R3 (L1.trans L3) n3 hH3 rp3 h0 o3⟩
/-- how many keys a dict display has -/
def lenKM (f : M (List (Key × D))) : M D := bindM f fun xs => pureM (.int (xs.length : Nat))
def rLenDK : List V → Hp → VK → Prop := fun xs H Q => ∃ a kvs, xs = [V.ref a] ∧ H a = some (.dK kvs) ∧ Q (.int kvs.length) H
theorem sat_lenK {t : TE} {f : M (List (Key × D))} (h : SatK C t f) : Sat C (tCB rLenDK (tCons t tNil)) (lenKM f) := by
  intro N σ H B g Q R q
  refine h N σ H B g _ R ?_
  have q : Fin C N σ B ((f g).bind fun xs => pureM (.int (xs.length : Nat))) Q := q
  cases e : f g with
  | ok xs g1 =>
    rw [e] at q
    intro p vs H1 B1 R1 L n hH r h0 hs
    refine ⟨p, vs, rfl, hH, ?_⟩
    rw [r.pd.length]
    exact q _ H1 B1 R1 L (.int _)
  | exc n ct => rw [e] at q; exact q
  | bad => rw [e] at q; exact q.elim
/-- sorted(d), d a dict of this place alone whose keys are ints -/
def keyInts : List (Key × D) → Option (List Int)
  | [] => some []
  | (.inl i, _) :: r => (keyInts r).map fun l => i :: l
  | (.inr _, _) :: _ => none
theorem keyInts_some {K : PySem.W.Frag} {B : Hp} : ∀ {kvs : List (Key × D)} {ks : List (Key × V)} {l : List Int}, Rpd K B ks kvs → keyInts kvs = some l → ks.map (·.1) = l.map Sum.inl
  | [], ks, l, r, h => by
    cases r
    cases h
    rfl
  | (.inl i, d) :: kvs, ks, l, r, h => by
    cases r with
    | cons a b =>
      have h : (keyInts kvs).map (fun l => i :: l) = some l := h
      cases e : keyInts kvs with
      | none => rw [e] at h; cases h
      | some m =>
        rw [e] at h
        cases h
        show Sum.inl i :: _ = _
        rw [keyInts_some b e]
        rfl
  | (.inr x, d) :: kvs, ks, l, r, h => by cases h
def sortKV (i : Nat) : M D := fun g => match g.sl[i]? with
  | some (.ownK kvs) => (match keyInts kvs with
    | some l => if l.length < 64 then .ok (.list ((isort l).map PyData.int)) g else .bad
    | none => .bad)
  | _ => .bad
def rSortDI : List V → Hp → VK → Prop := fun xs H Q => ∃ (a : Addr) (kvs : List (Key × V)) (ks : List Int), xs = [.ref a] ∧ Rd H a (.dK kvs) ∧ kvs.map (·.1) = ks.map Sum.inl ∧ ks.length < 64 ∧
    ∀ (ys : List Int) (p : Addr), ys.Perm ks → ys.Pairwise (· ≤ ·) → H p = none → Q (.ref p) (upd H p (.lst (ys.map V.int)))
theorem sat_sortK {i : Nat} : Sat C (tCB rSortDI (tCons (tVar i) tNil)) (sortKV i) := by
  intro N σ H B g Q R q
  unfold sortKV at q
  cases e : g.sl[i]? with
  | none => rw [e] at q; exact q.elim
  | some s =>
    rw [e] at q
    cases s with
    | ownK kvs =>
      obtain ⟨p, ks, e1, n, hH, r⟩ := R.slots i _ e
      simp only [] at q
      cases e2 : keyInts kvs with
      | none => rw [e2] at q; exact q.elim
      | some l =>
        rw [e2] at q
        by_cases hl : l.length < 64
        · simp only [if_pos hl] at q
          refine ⟨_, getD_some e1, p, ks, l, rfl, .inl hH, keyInts_some r.pd e2, hl, fun ys a hp hs hn => ?_⟩
          rw [isort_uniq hp hs]
          have G := Grow.upd (o := .lst ((isort l).map V.int)) hn R.sub
          exact q _ _ _ (R.grow G) G.b (.lst upd_same (Rps.ints _))
        · simp only [if_neg hl] at q
          exact q.elim
    | _ => exact q.elim
/-- a, b = x, [..]: the second a list of its own -/
def parX (i j : Nat) (f : M D) (k : M (List D)) : M Fl := bindM f fun x => bindM k fun ys => fun g => .ok .next { g with sl := (g.sl.set i (.dat x)).set j (.own ys) }
theorem satS_parX {i j : Nat} {te tf : TE} {f : M D} {k : M (List D)} (h : Sat C te f) (h2 : SatF C tf k) : SatS C (tPar i j (tCons te (tCons tf tNil))) (parX i j f k) := by
  intro N σ H B g E R q
  refine h.toS R q fun d g1 v H1 B1 _ R1 L1 rp1 q1 => ?_
  refine h2 N σ H1 B1 g1 _ R1 ?_
  have q1 : FinS C N B ((k g1).bind fun ys => fun g => .ok .next { g with sl := (g.sl.set i (.dat d)).set j (.own ys) }) E := q1
  cases e : k g1 with
  | ok ys g2 =>
    rw [e] at q1
    intro p vs H2 B2 R2 L2 n hH r h0 hs
    refine ⟨v, .ref p, rfl, ?_⟩
    have R3 := R2.set i (rp1.le L2)
    refine q1 _ H2 B2 (R3.setOwn j (s := .own ys) ⟨p, vs, rfl, n, hH, r⟩ h0 fun m hm z => ?_) (L1.trans L2)
    rcases ownAt_set hm with ⟨_, y⟩ | ⟨ne, hm⟩
    · cases y
    · rw [List.getElem?_set_ne (Ne.symm ne)] at z
      exact hs m hm z
  | exc n ct => rw [e] at q1; exact fun cl H2 B2 => q1 cl σ H2 B2
  | bad => rw [e] at q1; exact q1.elim
end
end DL

set_option Elab.async false
set_option linter.all false
set_option maxRecDepth 100000
set_option maxHeartbeats 4000000
/-! DL39: sorted of a tuple of ints. -/
namespace DL
open PySem PySem.Spec L2 StX
open PyProof.Rows hiding St
section
variable {prog : Program} {w : World} {A : Around} {E : Value → Shared → Prop} {s : Shared}
theorem collect_tup {t : Addr} {xs : List Value} {R : List Value → Shared → Prop} (ht : s.heap.IsTuple t xs.toArray) (hz : xs.length ≤ sizeLine)
    (hq : R xs { s with heap := (s.heap.push (seqObj "list" #[] 0)).update s.heap.objs.size (Obj.mapSeq (· ++ xs.toArray)) }) :
    wpAny (model prog w) A (collect (.ref t)) R E s := by
  obtain ⟨ob, hob, cl, m, dt⟩ := id ht
  have hob1 : (s.heap.push (seqObj "list" #[] 0)).get? t = some ob := Heap.get?_push_of_some (h := s.heap) _ hob
  have new : (s.heap.push (seqObj "list" #[] 0)).get? s.heap.objs.size = some (seqObj "list" #[] 0) := Heap.get?_push_size _ rfl
  unfold collect
  refine (wpAny_bind (wpAny_runValue (codeAny_builtin entry_proto_collect' (?_))))
  show (wpAny _ _ (do again (.builtin "list.__iadd__" ⟨[← newList [], .ref t], []⟩)) _ _ s)
  refine (wpAny_bind (wpAny_newList (wpAny_pure (⟨Code.quiet_builtin _ (by decide +kernel), codeAny_builtin entry_list_iadd' (?_)⟩))))
  show (wpAny _ _ (Builtin.List.listExtendWith (.ref s.heap.objs.size) (.ref t) (.ref s.heap.objs.size)) _ _ { s with heap := s.heap.push (seqObj "list" #[] 0) })
  unfold Builtin.List.listExtendWith
  refine (wpAny_bind (wpAny_typeOf (T := "tuple") (⟨ob, hob1, cl⟩) (?_)))
  have tt : ((Value.type "tuple") == (Value.type "tuple")) = true := by rfl
  rw [if_pos (by simp [tt])]
  refine (wpAny_bind (listItems_at hob1 dt (?_)))
  refine (wpAny_bind (listItems_at (n := 0) (xs := #[]) new rfl (?_)))
  rw [if_neg (by simp)]
  refine (wpAny_bind (listUpdate_at (n := 0) (xs := #[]) new rfl (?_) (Nat.zero_le _) (by simp only [List.size_toArray, Array.size_append, List.length_nil]; omega)))
  refine (wpAny_pure (?_))
  show (wpAny (model prog w) A (do
      let o ← load s.heap.objs.size
      match o.data with
      | .seq ys _ => pure ys.toList
      | _ => unsupported "internal:collect") R E { s with heap := (s.heap.push (seqObj "list" #[] 0)).update s.heap.objs.size (Obj.mapSeq (· ++ xs.toArray)) })
  refine (wpAny_bind (wpAny_load (get?_update_seq new _) (?_)))
  show (wpAny _ _ (pure ((#[] : Array Value) ++ xs.toArray).toList) R E _)
  have e : ((#[] : Array Value) ++ xs.toArray).toList = xs := by simp
  rw [e]
  exact (wpAny_pure hq)
theorem sorted_tupI {t : Addr} {xs : List Value} {ns : List Int} {R : Value → Shared → Prop} (ht : s.heap.IsTuple t xs.toArray) (hz : xs.length ≤ sizeLine) (hi : IntsAre xs ns)
    (hq : ∀ out : List Value, SrtO.Srtd SrtO.ltIv out → SrtO.Stb SrtO.ltIv out xs → R (.ref (s.heap.objs.size + 1)) { s with heap := sortedAll s.heap xs out.toArray }) :
    wpAny (model prog w) A (call (.builtin "sorted") [.ref t]) R E s := by
  have hs : ((s.heap.push (seqObj "list" #[] 0)).update s.heap.objs.size (Obj.mapSeq (· ++ xs.toArray))).objs.size = s.heap.objs.size + 1 := (Heap.size_update _ _ _).trans (size_push' _ _)
  have new : (((s.heap.push (seqObj "list" #[] 0)).update s.heap.objs.size (Obj.mapSeq (· ++ xs.toArray))).push (seqObj "list" xs.toArray 0)).get? (s.heap.objs.size + 1) = some (seqObj "list" xs.toArray 0) := by
    have z := Heap.get?_push_size ((s.heap.push (seqObj "list" #[] 0)).update s.heap.objs.size (Obj.mapSeq (· ++ xs.toArray))) (o := seqObj "list" xs.toArray 0) rfl
    rw [hs] at z
    exact z
  refine (Calls.call_function_entry kind_sorted plain_sorted entry_sorted (args_sorted1 _) (?_))
  unfold Builtin.«sorted»
  refine (wpAny_bind (m := checkCount "sorted" 1 1 _) (wpAny_pure (?_)))
  refine (wpAny_bind (collect_tup ht hz (?_)))
  refine (wpAny_bind (wpAny_newList (?_) hz))
  show (wpAny _ _ _ _ _ { s with heap := ((s.heap.push (seqObj "list" #[] 0)).update s.heap.objs.size (Obj.mapSeq (· ++ xs.toArray))).push (seqObj "list" xs.toArray 0) })
  rw [hs]
  refine (wpAny_bind (wpAny_holding (wpAny_call_entry slot_list_sort (⟨_, new, rfl⟩) entry_list_sort (SrtO.list_sort_ord SrtO.swo_int new hz (fun h2 => SrtO.ints_sortable hi h2) (fun out h1 h2 => ⟨_, rfl, ?_⟩)) (args_list_sort _))))
  exact (wpAny_pure ⟨_, rfl, hq out h1 h2⟩)
end
/-- sorted(xs), a list or a tuple of ints -/
def rSortedQ (K : PySem.W.Frag) : List V → Hp → VK → Prop := fun vs H Q => ∃ (a : Addr) (ns : List Int), vs = [V.ref a] ∧ SqT K H a (ns.map V.int) ∧
  ∀ (l : List Int) (p : Addr), l.Perm ns → l.Pairwise (· ≤ ·) → H p = none → Q (.ref p) (upd H p (.lst (l.map V.int)))
theorem cr_sortedQ {X : Cx} : CallR X (.builtin "sorted") (rSortedQ X.K) := by
  intro pins s σ H vs us Q I r h
  obtain ⟨a, ns, rfl, hs, q⟩ := h
  obtain ⟨its, rv, hl, hz⟩ := I.tuple hs
  have e0 := Vals.ref1 r
  rw [e0]
  have hi := rv.ints
  have hzz : its.length ≤ sizeLine := by
    have := rv.length
    omega
  refine sorted_tupI (ns := ns) hl hzz hi (fun out h1 h2 => ?_)
  obtain ⟨k1, k2, k3⟩ := SrtO.ints_out hi h1 h2
  obtain ⟨ep, at1⟩ := sortedAll_at s.heap its out.toArray
  have hlen : ((out.map SrtO.iv).map V.int).length ≤ sizeLine := by
    have := k2.length_eq
    rw [List.length_map] at hz ⊢
    omega
  have J := I.laid (a := s.heap.objs.size + 1) (o := .lst ((out.map SrtO.iv).map V.int)) (t' := s.toks) (h' := sortedAll s.heap its out.toArray) (fun _ _ z => sortedAll_old z) (Nat.le_succ _) ⟨hlen, out, ep, vals_of_ints k1, at1⟩
  exact ⟨V.ref _, _, J, rfl, q _ _ k2 k3 (I.hok.fresh (Nat.le_succ _))⟩
def sortedTD (ds : List D) : Option D := match ds with
  | [.tuple xs] => (intsD xs).map fun ns => .list ((isort ns).map PyData.int)
  | _ => none
theorem vn_sortedQ {C : Ctx} : VN C (rSortedQ C.K) sortedTD := by
  intro H B xs ds d Q L r e q
  unfold sortedTD at e
  split at e
  · rename_i ys
    cases e1 : intsD ys with
    | none => rw [e1] at e; cases e
    | some ns =>
      rw [e1] at e
      cases e
      obtain rfl := intsD_some e1
      obtain ⟨v, rfl, rp⟩ := r.one_of
      cases rp with
      | tup hb rr =>
        have ev := rr.of_ints
        subst ev
        refine ⟨_, ns, rfl, SqT.of (L _ _ hb), fun l p hp hs hn => ?_⟩
        rw [isort_uniq hp hs]
        have G := Grow.upd (o := .lst ((isort ns).map V.int)) hn L
        exact q _ _ _ G (.lst upd_same (Rps.ints _))
  · cases e
end DL

set_option Elab.async false
set_option linter.all false
set_option maxRecDepth 100000
set_option maxHeartbeats 4000000
/-! DL40: a tuple from behind. -/
namespace DL
open PySem PySem.Spec L2 StX
open PyProof.Rows hiding St
theorem range_all {α : Type} : ∀ l : List α, (List.range l.length).filterMap (fun k => l[k]?) = l
  | [] => rfl
  | x :: r => by
    rw [List.length_cons, List.range_succ_eq_map, List.filterMap_cons]
    show x :: List.filterMap _ (List.map Nat.succ (List.range r.length)) = _
    rw [List.filterMap_map]
    have e : ((fun k => (x :: r)[k]?) ∘ Nat.succ) = fun k => r[k]? := funext fun k => by simp
    rw [e, range_all r]
theorem filterMap_eq {α β : Type} {f g : α → Option β} : ∀ l : List α, (∀ x ∈ l, f x = g x) → l.filterMap f = l.filterMap g
  | [], _ => rfl
  | x :: r, h => by
    rw [List.filterMap_cons, List.filterMap_cons, h x List.mem_cons_self, filterMap_eq r fun y hy => h y (List.mem_cons_of_mem _ hy)]
theorem pick_rev {α : Type} (xs : Array α) : ((List.range xs.size).filterMap fun (k : Nat) => xs[((xs.size : Int) - 1 + (k : Int) * -1).toNat]?) = xs.toList.reverse := by
  have h := range_all xs.toList.reverse
  rw [List.length_reverse, Array.length_toList] at h
  refine Eq.trans (filterMap_eq _ fun k hk => ?_) h
  have hk := List.mem_range.mp hk
  rw [List.getElem?_reverse (by rw [Array.length_toList]; exact hk), Array.length_toList, Array.getElem?_toList]
  congr 1
  omega
section
variable {prog : Program} {w : World} {A : Around} {E : Value → Shared → Prop} {s : Shared}
theorem places_rev (n : Nat) : Builtin.Slice.slicePlaces ((n : Int) - 1) (-1) (-1) = n := by
  unfold Builtin.Slice.slicePlaces
  rw [if_neg (show ¬ ((-1 : Int) > 0) by decide)]
  by_cases h : (n : Int) - 1 > -1
  · rw [if_pos h]
    have e : ((n : Int) - 1 - -1 - 1) / (- -1) = (n : Int) - 1 := by
      rw [show (- -1 : Int) = 1 from rfl, Int.ediv_one]
      omega
    rw [e]
    omega
  · rw [if_neg h]
    omega
theorem applied_rev {sl : Addr} {a b c : Value} {n : Nat} {R : Int × Int × Nat → Shared → Prop} (hs : s.heap.IsSliceOf sl a b c) (pa : IsPart a none) (pb : IsPart b none) (pc : IsPart c (some (-1)))
    (hq : R ((n : Int) - 1, -1, n) s) : wpAny (model prog w) A (Builtin.Slice.sliceApplied (.ref sl) (pure (n : Int))) R E s := by
  obtain ⟨ob, hob, cl, dt⟩ := id hs
  unfold Builtin.Slice.sliceApplied Builtin.Slice.sliceFields
  refine (wpAny_bind (wpAny_bind (wpAny_field hob dt (x := a) rfl (wpAny_bind (wpAny_field hob dt (x := b) rfl (wpAny_bind (wpAny_field hob dt (x := c) rfl (wpAny_pure (?_)))))))))
  refine (wpAny_bind (HT.slicePart_ pc (?_)))
  show (wpAny _ _ (if ((-1 : Int) == 0) = true then _ else _) _ _ s)
  rw [if_neg (by decide)]
  refine (wpAny_bind (HT.slicePart_ pa (wpAny_bind (HT.slicePart_ pb (wpAny_bind (wpAny_pure (?_)))))))
  show (wpAny _ _ (pure ((n : Int) - 1, (-1 : Int), Builtin.Slice.slicePlaces ((n : Int) - 1) (-1) (-1))) _ _ s)
  rw [places_rev]
  exact (wpAny_pure hq)
theorem item_rev {t sl : Addr} {xs : Array Value} {a b c : Value} {R : Value → Shared → Prop} (ht : IsTup s.heap t xs) (hs : s.heap.IsSliceOf sl a b c) (pa : IsPart a none) (pb : IsPart b none) (pc : IsPart c (some (-1)))
    (hq : R (.ref s.heap.objs.size) { s with heap := s.heap.push { cls := .type "tuple", data := .seq xs.toList.reverse.toArray } }) (hz : xs.size ≤ sizeLine) : wpAny (model prog w) A (getItem (.ref t) (.ref sl)) R E s := by
  obtain ⟨ob, hob, cl, dt⟩ := id hs
  have ty : s.TypeIs (.ref sl) "slice" := ⟨ob, hob, cl⟩
  have fits : sizeOk (.seq xs.toList.reverse.toArray) := by
    show xs.toList.reverse.toArray.size ≤ sizeLine
    rw [List.size_toArray, List.length_reverse, Array.length_toList]
    exact hz
  unfold getItem
  try with_reducible refine (wpAny_holding (?_))
  first | refine (wpAny_bind (wpAny_pure (?_))) | skip
  refine (wpAny_bind (wpAny_sequenceKey ht.typeIs (by decide) (?_)))
  refine (wpAny_bind (wpAny_callSpecial?_slot (name := Str.ofString "__getitem__") ht.typeIs slot_tuple_getitem (wpAny_call_entry slot_tuple_getitem ht.typeIs entry_tuple_getitem (?_) (args_tuple_getitem _ _))))
  show (wpAny _ _ (Builtin.Tuple.tupleItemsOf (.ref t) >>= _) _ _ s)
  refine (wpAny_bind (tupleItemsOf_ ht (?_)))
  refine (wpAny_bind (wpAny_typeOf ty (?_)))
  rw [if_pos (by decide)]
  refine (wpAny_bind (applied_rev hs pa pb pc (?_)))
  have no : ¬ ((((xs.size : Int) - 1 == 0) && (((-1 : Int)) == 1) && (xs.size == xs.size)) = true) := by simp
  show (wpAny _ _ (if ((((xs.size : Int) - 1 == 0) && (((-1 : Int)) == 1) && (xs.size == xs.size)) = true) then _ else _) _ _ s)
  rw [if_neg no, pick_rev]
  first
    | exact (wpAny_bind (m := Builtin.Tuple.tupleExact _) (wpAny_newObj_type (wpAny_pure ⟨_, rfl, (wpAny_pure hq)⟩) fits))
    | exact (wpAny_bind (m := Builtin.Tuple.tupleExact _) (wpAny_newObj_type (wpAny_bind (wpAny_pure (wpAny_pure ⟨_, rfl, (wpAny_pure hq)⟩))) fits))
    | exact (wpAny_bind (wpAny_bind (m := Builtin.Tuple.tupleExact _) (wpAny_newObj_type (wpAny_pure (wpAny_pure ⟨_, rfl, (wpAny_pure hq)⟩)) fits)))
    | exact (wpAny_bind (wpAny_bind (m := Builtin.Tuple.tupleExact _) (wpAny_newObj_type (wpAny_pure ⟨_, rfl, (wpAny_pure hq)⟩) fits)))
end
/-- t[::-1], t a tuple -/
def tRevT (K : PySem.W.Frag) (te : TE) : TE := fun σ H Q => te σ H fun x H1 => ∃ a xs, x = .ref a ∧ SqT K H1 a xs ∧ ∀ p, H1 p = none → Q (.ref p) (upd H1 p (.tup xs.reverse))
theorem pe_revT {X : Cx} {e : Expr} {te : TE} {k : Nat} {p1 p2 p3 pos : Pos} (he : PE X e te) : PE X (.Subscript e (.Slice none none (some (.UnaryOp .USub (.Constant (.int 1) k p1) p2)) p3) pos) (tRevT X.K te) := by
  refine ⟨fun pins s σ H Q I h => ?_⟩
  refine (Subscript_ (thn (he.run pins s σ H _ I h) (fun v s1 ⟨x, H1, I1, r1, q1⟩ => ?_)))
  obtain ⟨a, xs, rfl, hx, q⟩ := q1
  cases r1
  have st : PO X (some (.UnaryOp .USub (.Constant (.int 1) k p1) p2)) (tPart (tUn (rU fun i => .int (-i)) (tC (.int 1)))) := po_some (pe_un un_neg pe_int)
  refine (wpAny_Slice (thn (po_none.run pins s1 σ H1 (fun o H2 => o = none ∧ H2 = H1) I1 ⟨rfl, rfl⟩) (fun vl s2 ⟨l, H2, I2, pl, el, e2⟩ => ?_)))
  subst el
  subst e2
  refine (thn (po_none.run pins s2 σ H2 (fun o H3 => o = none ∧ H3 = H2) I2 ⟨rfl, rfl⟩) (fun vu s3 ⟨u, H3, I3, pu, eu, e3⟩ => ?_))
  subst eu
  subst e3
  refine (thn (st.run pins s3 σ H3 (fun o H4 => o = some (-1) ∧ H4 = H3) I3 ⟨1, rfl, -1, rfl, rfl, rfl⟩) (fun vs s4 ⟨o, H4, I4, ps, eo, e4⟩ => ?_))
  subst eo
  subst e4
  have I5 : Inv X pins σ H4 ({ s4 with heap := s4.heap.push { cls := .type "slice", data := .fields #[vl, vu, vs] } }) := I4.kept (t' := s4.toks) (fun b ob q => Heap.get?_push_of_some _ q)
  obtain ⟨its, r, ht, hz⟩ := I5.tuple hx
  have hlen := r.length
  show (wpAny (model X.prog X.w) X.A (subscriptTail e (.Slice none none (some (.UnaryOp .USub (.Constant (.int 1) k p1) p2)) p3) (.ref a) (.ref s4.heap.objs.size)) (EP X pins σ Q) X.xe { s4 with heap := s4.heap.push { cls := .type "slice", data := .fields #[vl, vu, vs] } })
  refine (tail_any (ops := [.ref a, .ref s4.heap.objs.size]) ht.typeIs (slot_tuple_getitem.lookup) (?_) (by with_unfolding_all rfl))
  refine (item_rev ht (Heap.IsSliceOf.new _ vl vu vs) pl pu ps (?_) (by rw [List.size_toArray]; omega))
  refine ⟨.ref _, _, I5.laid (t' := s4.toks) (o := .tup xs.reverse) (fun b ob q => Heap.get?_push_of_some _ q) (Nat.le_refl _) (?_), rfl, q _ (I5.hok.fresh (Nat.le_refl _))⟩
  exact ⟨by rw [List.length_reverse]; exact hz, _, r.reverse, IsTup.new _ _⟩
def revTD (d : D) : Option D := match d with
  | .tuple xs => some (.tuple xs.reverse)
  | _ => none
theorem sat_revT {C : Ctx} {te : TE} {f : M D} (h : Sat C te f) : Sat C (tRevT C.K te) (op1 revTD f) := by
  intro N σ H B g Q R q
  refine h.run (P := fun x => Fin C N σ B x Q) R q (fun n ct z => z) (fun z => z) fun d g1 v H1 B1 _ R1 L1 rp1 q1 => ?_
  obtain ⟨d2, e, q3⟩ := lift_fin R1 L1 q1
  cases rp1 with
  | @tup a ws xs hb rr =>
    cases e
    refine ⟨_, _, rfl, SqT.of (R1.sub _ _ hb), fun p hp => ?_⟩
    have G := Grow.upd (o := .tup ws.reverse) hp R1.sub
    exact q3 _ _ _ G (.tup upd_same (rr.reverse.le G.b))
  | _ => cases e
end DL

set_option Elab.async false
set_option linter.all false
set_option maxRecDepth 100000
set_option maxHeartbeats 4000000
/-! DL41: sorted(set(xs)), xs a list of ints. -/
namespace DL
open PySem PySem.Spec L2 StX
open PyProof.Rows hiding St
/-- the empty set that a call of set begins with -/
abbrev set0 (w : World) : Obj := { cls := .type "set", dict := none, data := .set #[] 0 (.fresh 0 0 (!w.params.followText "set-order")) }
section
variable {P : Program} {w : World} {A : Around} {E : Value → Shared → Prop} {s : Shared}
theorem set_of_list {l : Addr} {xs : Array Value} (zs : List Int) {R : Value → Shared → Prop} (calm : A.handled = none) (hL : s.heap.IsList l xs) (hI : IntsAre xs.toList zs) (few : zs.length + 1 < scanBound)
    (fin : ∀ (h1 : Heap) (tk c : Nat), SetR w h1 s.heap.objs.size (fun j => decide (j ∈ zs)) c → c ≤ zs.length → (∀ b o, s.heap.get? b = some o → h1.get? b = some o) → R (.ref s.heap.objs.size) { s with heap := h1, toks := tk }) :
    wpAny (model P w) A (call (.type "set") [.ref l]) R E s := by
  have size : xs.size = zs.length := (Array.length_toList (xs := xs)).symm.trans (IntsAre.length hI)
  obtain ⟨_, _, mro⟩ := F.called_set.mro
  have made := F.called_set.made
  have sub := F.called_set.sub
  refine (wpAny_call (codeAny_of_tree (?_)))
  show (wpAny _ _ (callAny (.type "set") _) _ _ _)
  refine (wpAny_pure (⟨Code.quiet_builtin _ (by decide +kernel), (codeAny_builtin F.entry_type_call (?_))⟩))
  rw [Around.under_plain (weight_type_call_type "set" [.ref l] ([])) (rfl)]
  have f1 := F.called_set.notType
  have f2 := F.called_set.canCreate
  have f3 := F.typeCall_set_1 (.ref l)
  repeat (any_goals (first | assumption | wp_step))
  refine (codeAny_mono (code_set_led1 (.ref l) (E := E) (Q₁ := fun x s1 => x = .ref s.heap.objs.size ∧ s1 = { s with heap := s.heap.push (set0 w) }) (⟨rfl, rfl⟩)) (fun r s1 hr => ?_))
  match r, hr with
  | .error e, hr => exact hr
  | .ok .next, hr => exact hr.elim
  | .ok .brk, hr => exact hr.elim
  | .ok .cont, hr => exact hr.elim
  | .ok (.ret x), hr =>
    obtain ⟨rfl, rfl⟩ := hr
    have at0 : (s.heap.push (set0 w)).get? s.heap.objs.size = some (set0 w) := Heap.get?_push_size _ rfl
    have ty0 : Shared.TypeIs { s with heap := s.heap.push (set0 w) } (.ref s.heap.objs.size) "set" := ⟨_, at0, rfl⟩
    have g1 := F.called_set.init.lookup
    have g2 := F.called_set.init.bind (.ref s.heap.objs.size)
    repeat (any_goals (first | assumption | wp_step))
    refine (codeAny_mono (codeAny_call_builtin (R := wants (fun r s2 => r = .none ∧ ∃ h1 tk c, s2 = { s with heap := h1, toks := tk } ∧ SetR w h1 s.heap.objs.size (fun j => decide (j ∈ zs)) c ∧ c ≤ zs.length ∧ (∀ b o, s.heap.get? b = some o → h1.get? b = some o)) E) F.called_set.init.plain F.entry_set_init (check_set_init_1 ty0 (?_))) (fun r2 s2 hr2 => ?_))
    · obtain ⟨⟨k1, k2, k3, k4⟩, atL, c1, n1, c2⟩ := hL
      simp only at c1 c2
      subst c1
      subst c2
      have atL1 : (s.heap.push (set0 w)).get? l = some { cls := .type "list", dict := k2, data := .seq xs n1, slots := k4 } := Heap.get?_push_of_some _ atL
      have e1 := F.sub_list_set
      have e2 := F.sub_list_frozenset
      have e3 : ((Value.type "list") == (Value.type "dict")) = false := by decide
      have isL : (s.heap.push (set0 w)).IsList l xs := ⟨_, atL1, rfl, n1, rfl⟩
      unfold Builtin.«set.__init__» noKeywords Builtin.Frozenset.updateFrom
      generalize hIt : pyIter = It
      wp_walk
      subst hIt
      refine (wpAny_pyIter_list isL (?_))
      refine (wpAny_bind (wpAny_runValue (?_)))
      have ltL : l < s.heap.objs.size := Heap.lt_size atL
      have calm3 : A.in1.in1.in1.handled = none := by simp [calm]
      have sz1 : (s.heap.push (set0 w)).objs.size = s.heap.objs.size + 1 := Heap.size_push ..
      have neL : l ≠ (s.heap.push (set0 w)).objs.size := fun z => by rw [sz1] at z; exact Nat.lt_irrefl _ (Nat.lt_of_lt_of_le ltL (by rw [z]; exact Nat.le_succ _))
      have apart : s.heap.objs.size ∉ [(s.heap.push (set0 w)).objs.size, l] := by
        intro z
        rcases List.mem_cons.mp z with z | z
        · rw [sz1] at z
          exact Nat.lt_irrefl _ (Nat.lt_of_lt_of_le (Nat.lt_succ_self _) (Nat.le_of_eq z.symm))
        · exact Nat.lt_irrefl _ (Nat.lt_of_lt_of_le ltL (Nat.le_of_eq (List.mem_singleton.mp z)))
      have vals : ∀ (i : Nat) (v : Value), xs[i]? = some v → ∃ k t, zs[i]? = some k ∧ v = .int k t := fun i v hv => by
        have hi : i < zs.length := by
          have := (Array.getElem?_eq_some_iff.mp hv).1
          omega
        obtain ⟨t, e⟩ := IntsAre.int_at hI i v ((Array.getElem?_toList (xs := xs) (i := i)).trans hv)
        refine ⟨zs[i], t, List.getElem?_eq_getElem hi, e.trans ?_⟩
        rw [List.getD_eq_getElem?_getD, List.getElem?_eq_getElem hi]
        rfl
      refine set_update_ints ((Walks.list calm3 _ l neL xs).toS) s.heap.objs.size apart zs size few vals (xs.size - 0) 0 _ (by omega) (Nat.zero_le _) (⟨⟨_, Heap.get?_push_size _ rfl, rfl, rfl⟩, isL.push _⟩) ?first ?last
      case first =>
        exact ⟨0, Nat.le_refl 0, setR_new_at (Heap.get?_push_of_some _ at0)⟩
      case last =>
        rintro ⟨h1, ge, dr, tk, os⟩ c mv le R1
        obtain rfl : ge = s.gens := mv.gens
        obtain rfl : dr = s.drawn := mv.drawn
        obtain rfl : os = s.os := mv.os
        show (wpAny _ _ _ _ _ _)
        refine (wpAny_pure (?_))
        show (wpAny _ _ (ret Value.none) _ _ _)
        refine (wpAny_pure (⟨rfl, h1, tk, c, rfl, R1, (by omega), fun b o e => ?_⟩))
        have lt := Heap.lt_size e
        refine mv.heap b o ?_ (Heap.get?_push_of_some _ (Heap.get?_push_of_some _ e))
        intro z
        rcases List.mem_cons.mp z with z | z
        · exact Nat.lt_irrefl _ (Nat.lt_of_lt_of_le lt (Nat.le_of_eq z.symm))
        · have z := List.mem_singleton.mp z
          rw [sz1] at z
          exact Nat.lt_irrefl _ (Nat.lt_of_lt_of_le lt (by rw [z]; exact Nat.le_succ _))
    · match r2, hr2 with
      | .error e, hr2 => exact hr2
      | .ok .next, hr2 => exact hr2.elim
      | .ok .brk, hr2 => exact hr2.elim
      | .ok .cont, hr2 => exact hr2.elim
      | .ok (.ret r), hr2 =>
        obtain ⟨rfl, h1, tk, c, rfl, R1, le, keep⟩ := hr2
        repeat (any_goals (first | assumption | wp_step))
        exact fin _ _ _ R1 le keep
end
end DL

set_option Elab.async false
set_option linter.all false
set_option maxRecDepth 100000
set_option maxHeartbeats 4000000
/-! DL42: sorted(set(xs)). -/
namespace DL
open PySem PySem.Spec L2 StX
open PyProof.Rows hiding St
/-- sorted(set(xs)) -/
def tSortSet (K : PySem.W.Frag) (ta : TE) : TE := fun σ H Q => ta σ H fun x H1 => ∃ (l : Addr) (ns : List Int), x = V.ref l ∧ SqL K H1 l (ns.map V.int) ∧ ns.length ≤ 4000 ∧ (∀ m : List Int, m.Nodup → (∀ k ∈ m, k ∈ ns) → m.length < 64) ∧
  ∀ (m : List Int) (p : Addr), m.Pairwise (· < ·) → (∀ k, k ∈ m ↔ k ∈ ns) → H1 p = none → Q (.ref p) (upd H1 p (.lst (m.map V.int)))
theorem setR_count {w : World} {h : Heap} {a : Addr} {ns : List Int} {c : Nat} (R : SetR w h a (fun j => decide (j ∈ ns)) c) (few : ∀ m : List Int, m.Nodup → (∀ k ∈ m, k ∈ ns) → m.length < 64) : c < 64 := by
  obtain ⟨o, es, ep, t, ho, hex, hd, g, nd, hm, hb, hf, hn, hr, hl⟩ := R
  have z := few (es.toList.map keyOf) nd fun k hk => of_decide_eq_true ((hm k).mpr hk)
  rw [List.length_map, Array.length_toList] at z
  omega
theorem pe_sortSet {X : Cx} {a : Expr} {ta : TE} {p p2 q pos : Pos} (hc : X.calm = true) (hg : Gl X "sorted") (hm : X.mg "sorted" = none) (hg2 : Gl X "set") (hm2 : X.mg "set" = none) (ha : PE X a ta)
    (na : starEach [a] X.env = (false, eval a X.env) :: starEach [] X.env := by rfl) : PE X (.Call (.Name "sorted" p) [.Call (.Name "set" p2) [a] [] q] [] pos) (tSortSet X.K ta) := by
  refine ⟨fun pins s σ H Q I h => ?_⟩
  refine (Call_ (ld_blt I hg hm boot_sorted (callWith_builtin1 (args_cons (?_) rfl) rfl rfl)))
  refine (Call_ (ld_blt I hg2 hm2 boot_set (callWith_type1 (args_cons (thn (ha.run pins s σ H _ I h) (fun v s1 ⟨x, H1, I1, r1, q1⟩ => args_nil (?_))) na) na rfl)))
  obtain ⟨l, ns, rfl, hq, hz, few, q⟩ := q1
  cases r1
  obtain ⟨its, r, pl, hz2⟩ := I1.list hq
  refine (set_of_list ns (I1.ok.hd hc) pl.isList (by simpa using r.ints) (by unfold scanBound; omega) (fun h1 tk c R1 le keep => args_nil (?_)))
  have I2 : Inv X pins σ H1 { s1 with heap := h1, toks := tk } := I1.kept keep
  refine (sorted_set R1 (I1.ok.hd hc) (setR_count R1 few) (fun s2 a out e m k g o hp at2 hi srt mem len => ?_))
  have small : c < 64 := setR_count R1 few
  have hlen : (m.map V.int).length ≤ sizeLine := by
    rw [List.length_map, len, sizeLine_eq]
    omega
  have hn : H1 a = none := I2.hok.fresh hp
  let s0 : Shared := { s1 with heap := h1, toks := tk }
  have J : Inv X pins σ (upd H1 a (.lst (m.map V.int))) { s0 with heap := s2.heap, gens := s2.gens, drawn := s2.drawn, toks := s2.toks } :=
    I2.call (ch := []) (Un.laid k hp hn) (I2.hok.laid k hp ⟨hlen, out.toList, e, vals_of_ints hi, at2⟩) (by rw [g]; exact I2.bare) (fun _ z => nomatch z)
  have e2 : s2 = { s0 with heap := s2.heap, gens := s2.gens, drawn := s2.drawn, toks := s2.toks } := by
    obtain ⟨_, _, _, _, _⟩ := s2
    obtain ⟨_, _, _, _, _⟩ := s1
    cases o
    rfl
  rw [e2]
  exact ⟨.ref a, _, J, rfl, q m a srt (fun k => (mem k).trans decide_eq_true_iff) hn⟩
/-- the members, each once -/
def once : List Int → List Int
  | [] => []
  | x :: r => if r.contains x = true then once r else x :: once r
theorem once_mem : ∀ {l : List Int} {k : Int}, k ∈ once l ↔ k ∈ l
  | [], k => Iff.rfl
  | x :: r, k => by
    unfold once
    split
    · rename_i h
      rw [once_mem, List.mem_cons]
      constructor
      · exact .inr
      · rintro (rfl | h2)
        · exact List.contains_iff_mem.mp h
        · exact h2
    · rw [List.mem_cons, List.mem_cons, once_mem]
theorem once_nodup : ∀ l : List Int, (once l).Nodup
  | [] => List.nodup_nil
  | x :: r => by
    unfold once
    split
    · exact once_nodup r
    · rename_i h
      refine List.nodup_cons.mpr ⟨fun z => h (List.contains_iff_mem.mpr (once_mem.mp z)), once_nodup r⟩
theorem nodup_le : ∀ {m l : List Int}, m.Nodup → (∀ k ∈ m, k ∈ l) → m.length ≤ l.length
  | [], _, _, _ => Nat.zero_le _
  | x :: m, l, hn, hs => by
    obtain ⟨h1, h2⟩ := List.nodup_cons.mp hn
    have hx := hs x List.mem_cons_self
    have := nodup_le (l := l.erase x) h2 fun k hk => (List.mem_erase_of_ne fun e => h1 (by rw [← e]; exact hk)).mpr (hs k (List.mem_cons_of_mem _ hk))
    rw [List.length_erase_of_mem hx] at this
    have : 0 < l.length := List.length_pos_of_mem hx
    rw [List.length_cons]
    omega
theorem strict_uniq {l m : List Int} (h1 : l.Pairwise (· < ·)) (h2 : m.Pairwise (· < ·)) (h : ∀ k, k ∈ l ↔ k ∈ m) : l = m := by
  have n1 : l.Nodup := h1.imp fun z => Int.ne_of_lt z
  have n2 : m.Nodup := h2.imp fun z => Int.ne_of_lt z
  exact sorted_uniq ((List.perm_ext_iff_of_nodup n1 n2).mpr h) (h1.imp Int.le_of_lt) (h2.imp Int.le_of_lt)
theorem sort_once (l : List Int) : (isort (once l)).Pairwise (· < ·) := by
  have h1 := isort_sorted (once l)
  have h2 : (isort (once l)).Nodup := (isort_perm _).nodup_iff.mpr (once_nodup l)
  exact (List.pairwise_and_iff.mpr ⟨h1, h2⟩).imp fun z => by omega
def sortSetD (d : D) : Option D := match d with
  | .list xs => (intsD xs).bind fun ns => if ns.length ≤ 4000 ∧ (once ns).length < 64 then some (.list ((isort (once ns)).map PyData.int)) else none
  | _ => none
theorem sat_sortSet {C : Ctx} {te : TE} {f : M D} (h : Sat C te f) : Sat C (tSortSet C.K te) (op1 sortSetD f) := by
  intro N σ H B g Q R q
  refine h.run (P := fun x => Fin C N σ B x Q) R q (fun n ct z => z) (fun z => z) fun d g1 v H1 B1 _ R1 L1 rp1 q1 => ?_
  obtain ⟨d2, e, q3⟩ := lift_fin R1 L1 q1
  cases rp1 with
  | @lst a ws xs hb rr =>
    have e : ((intsD xs).bind fun ns => if ns.length ≤ 4000 ∧ (once ns).length < 64 then some (PyData.list ((isort (once ns)).map PyData.int)) else none) = some d2 := e
    cases e1 : intsD xs with
    | none => rw [e1] at e; cases e
    | some ns =>
      rw [e1] at e
      obtain ⟨⟨hz, few⟩, rfl⟩ := if_some e
      obtain rfl := intsD_some e1
      have ev := rr.of_ints
      subst ev
      refine ⟨_, ns, rfl, SqL.of (R1.sub _ _ hb), hz, fun m hn hm => Nat.lt_of_le_of_lt (nodup_le hn fun k hk => once_mem.mpr (hm k hk)) few, fun m p hs hm hp => ?_⟩
      rw [strict_uniq hs (sort_once ns) fun k => (hm k).trans (((isort_perm _).mem_iff.trans once_mem).symm)]
      have G := Grow.upd (o := .lst ((isort (once ns)).map V.int)) hp R1.sub
      exact q3 _ _ _ G (.lst upd_same (Rps.ints _))
  | _ => cases e
end DL

set_option Elab.async false
set_option linter.all false
set_option maxRecDepth 100000
set_option maxHeartbeats 4000000
/-! DL43: the words for the constructs of DL37 to DL42. -/
namespace DL
open PySem PySem.Spec L2 StX
open PyProof.Rows hiding St
section
variable {X : Cx} {s : Option StC} {E : St → XK}
variable {a b c e : Expr} {es : List Expr} {f k l : M D} {fa : M (List D)} {pos p p1 p2 p3 apos : Pos}
theorem slput (i : Nat) {x : Str} {px : Pos} {v : Expr} (hk : DE (cx X s E) X b k) (hv : DE (cx X s E) X v f) (ho : PE X (.Name x px) (tVar i) := by exact pv _)
    (hs : swapsWithSole [.Subscript (.Name x px) b p1] v pos.line X.env = pure false := by rfl) (hw : swappedStores [.Subscript (.Name x px) b p1] v X.env = pure none := by rfl) (h1 : (assignEach [.Subscript (.Name x px) b p1] X.env).map (·.2) = [assign (.Subscript (.Name x px) b p1) X.env] := by rfl)
    (hsb : ∀ w, assign (.Subscript (.Name x px) b p1) X.env w = (do
      let ov ← holding [w] (eval (.Name x px) X.env)
      let iv ← holding [w, ov] (eval b X.env)
      standAt p1
      holding [w, ov, iv] (setItem ov iv w)
      release [w, ov, iv] []) := by intro _; rfl) :
    DS (cx X s E) X (.Assign [.Subscript (.Name x px) b p1] v pos) (lputM i k f) := dS (ps_asg hv (pg_sub ho hk set_list hsb) hs hw h1) (satS_lput sE sE)
theorem irng3 {tg : Expr} (hm : X.mg "range" = none) (ha : DA (cx X s E) X [a, b, c] fa) (hg : Gl X "range" := by rfl) (hs : starEach [a, b, c] X.env = (false, eval a X.env) :: starEach [b, c] X.env := by rfl) (hpl : (backTo pos (starEach [b, c] X.env)).any (·.1) = false := by rfl) :
    DI (cx X s E) X tg (.Call (.Name "range" p) [a, b, c] [] pos) (srcA rng3 fa) := dI (pi_range3 hg hm ha hs hpl) (satI_rng3 sA)
theorem gfdivW (ha : DE (cx X s E) X a f) (hb : DE (cx X s E) X b k) : DE (cx X s E) X (.BinOp a .FloorDiv b pos) (op2 fdivWD f k) := dE (pe_op op_fdivW ha hb) (sat_op v2_fdivW sE sE)
theorem gsortSet (hc : X.calm = true) (hm : X.mg "sorted" = none) (hm2 : X.mg "set" = none) (ha : DE (cx X s E) X a f) (hg : Gl X "sorted" := by rfl) (hg2 : Gl X "set" := by rfl) (na : starEach [a] X.env = (false, eval a X.env) :: starEach [] X.env := by rfl) :
    DE (cx X s E) X (.Call (.Name "sorted" p) [.Call (.Name "set" p1) [a] [] p2] [] pos) (op1 sortSetD f) := dE (pe_sortSet hc hg hm hg2 hm2 ha na) (sat_sortSet sE)
theorem gsortK (i : Nat) {x : Str} {px : Pos} (hc : X.calm = true) (hm : X.mg "sorted" = none) (hv : PE X (.Name x px) (tVar i) := by exact pv _) (hg : Gl X "sorted" := by rfl) (he : starEach [.Name x px] X.env = (false, eval (.Name x px) X.env) :: starEach [] X.env := by rfl) (hpl : (backTo pos (starEach [] X.env)).any (·.1) = false := by rfl) :
    DE (cx X s E) X (.Call (.Name "sorted" p) [.Name x px] [] pos) (sortKV i) := dE (pe_callB (call_sortedDI hc) hg hm boot_sorted (pa_cons hv pa_nil he) (by decide) (by decide) he hpl) sat_sortK
theorem flrep (ha : DE (cx X s E) X a f) (hb : DE (cx X s E) X b k) : DF (cx X s E) X (.BinOp a .Mult b pos) (repF f k) := dF (pe_op op_rep ha hb) (satF_rep sE sE)
theorem flrg (hc : X.calm = true) (hm : X.mg "list" = none) (hm2 : X.mg "range" = none) (ha : DE (cx X s E) X a f) (hg : Gl X "list" := by rfl) (hg2 : Gl X "range" := by rfl) (na : starEach [a] X.env = (false, eval a X.env) :: starEach [] X.env := by rfl)
    (nb : starEach [.Call (.Name "range" p1) [a] [] p2] X.env = (false, eval (.Call (.Name "range" p1) [a] [] p2) X.env) :: starEach [] X.env := by rfl) : DF (cx X s E) X (.Call (.Name "list" p) [.Call (.Name "range" p1) [a] [] p2] [] pos) (lrgF f) := dF (pe_listRg hc hg hm (prg_1 hg2 hm2 ha na) nb) (satF_lrg sE)
theorem gtrg (hc : X.calm = true) (hm : X.mg "tuple" = none) (hm2 : X.mg "range" = none) (ha : DE (cx X s E) X a f) (hg : Gl X "tuple" := by rfl) (hg2 : Gl X "range" := by rfl) (na : starEach [a] X.env = (false, eval a X.env) :: starEach [] X.env := by rfl)
    (nb : starEach [.Call (.Name "range" p1) [a] [] p2] X.env = (false, eval (.Call (.Name "range" p1) [a] [] p2) X.env) :: starEach [] X.env := by rfl) : DE (cx X s E) X (.Call (.Name "tuple" p) [.Call (.Name "range" p1) [a] [] p2] [] pos) (trgM f) := dE (pe_tupRg hc hg hm (prg_1 hg2 hm2 ha na) nb) (sat_trg sE)
theorem grevT {k0 : Nat} {q1 q2 q3 : Pos} (ha : DE (cx X s E) X a f) : DE (cx X s E) X (.Subscript a (.Slice none none (some (.UnaryOp .USub (.Constant (.int 1) k0 q1) q2)) q3) pos) (op1 revTD f) := dE (pe_revT ha) (sat_revT sE)
theorem ssetK (i : Nat) {x : Str} (hN : X.N.Nodup) (hi : X.N[i]? = some x := by rfl) (hx : Loc X.env.scope x := by first | exact Or.inl rfl | exact Or.inr rfl) (hs : swapsWith (.Dict [] [] p) (some (.Name x p1)) pos.line X.env = pure false := by rfl)
    (hf : X.fn x = true ∨ X.env.scope.names.lookup x = some .local := by first | exact .inl rfl | exact .inr rfl) : DS (cx X s E) X (.Assign [.Name x p1] (.Dict [] [] p) pos) (asgK (pureM []) i) := dS (ps_set hN hi hx pe_dnewK hs hf) (satS_asgK satK_new)
theorem glenDc {kx vx tg iter : Expr} {ifs : List Expr} {scope : Scope} {ts : List Nat} {src : M (List D)} {kk : D → M Unit} {cc : M Bool} {ek ev : M D} (own : List (Str × Nat)) (hc : X.calm = true) (hN : X.N.Nodup) (ok : BlkOk X.N X.env.scope scope own) (hm : X.mg "len" = none) (hi : DI (cx X s E) X tg iter src)
    (hg : ∀ (s0 : Shared) (H : Hp) (C : Addr) (cl : List (Str × Addr)) (fp : List Addr), DG (cx X s fun _ => L2.E0) (X.blk s0 H scope (compEnvC scope cl C X.env) fp) tg ts kk) (ht : ∀ (s0 : Shared) (H : Hp) (C : Addr) (cl : List (Str × Addr)) (fp : List Addr), DTs (cx X s fun _ => L2.E0) (X.blk s0 H scope (compEnvC scope cl C X.env) fp) ifs cc)
    (hk : ∀ (s0 : Shared) (H : Hp) (C : Addr) (cl : List (Str × Addr)) (fp : List Addr), DE (cx X s fun _ => L2.E0) (X.blk s0 H scope (compEnvC scope cl C X.env) fp) kx ek)
    (he : ∀ (s0 : Shared) (H : Hp) (C : Addr) (cl : List (Str × Addr)) (fp : List Addr), DE (cx X s fun _ => L2.E0) (X.blk s0 H scope (compEnvC scope cl C X.env) fp) vx ev) (hv : ∀ j, j ∈ ts → j ∈ own.map (·.2) := by decide) (hs : ∀ x, foldedSetIterable iter X.env x = pure x := by intro _; rfl)
    (hgl : Gl X "len" := by rfl) (hse : starEach [.DictComp kx vx [⟨tg, iter, ifs, 0⟩] scope p1] X.env = (false, eval (.DictComp kx vx [⟨tg, iter, ifs, 0⟩] scope p1) X.env) :: starEach [] X.env := by rfl) (hpl : (backTo pos (starEach [] X.env)).any (·.1) = false := by rfl) :
    DE (cx X s E) X (.Call (.Name "len" p) [.DictComp kx vx [⟨tg, iter, ifs, 0⟩] scope p1] [] pos) (lenKM (dkM src kk cc ek ev (own.map (·.2)))) :=
  dE (pe_callB call_lenD hgl hm PySem.boot_len (pa_cons (pe_dc hc hN hi ok hg ht hk he hs) pa_nil hse) (by decide) (by decide) hse hpl) (sat_lenK (satK_dc (C := cx X s E) sI sG sT sE sE hv))
theorem sparX (i j : Nat) {x y : Str} {px py pt : Pos} {kt k2 pt2} {fl : M (List D)} (hc : X.calm = true) (hN : X.N.Nodup) (ha : DE (cx X s E) X a f) (hb : DF (cx X s E) X b fl) (hw : swappedStores [.Tuple [.Name x px, .Name y py] kt pt] (.Tuple [a, b] k2 pt2) X.env = pure (some [x, y]) := by rfl) (hi : X.N[i]? = some x := by rfl) (hj : X.N[j]? = some y := by rfl) (hij : i ≠ j := by decide)
    (hx : X.env.scope.names.lookup x = some .local := by rfl) (hy : X.env.scope.names.lookup y = some .local := by rfl) (hs : swapsWithSole [.Tuple [.Name x px, .Name y py] kt pt] (.Tuple [a, b] k2 pt2) pos.line X.env = pure false := by rfl)
    (he : starEach [a, b] X.env = (false, eval a X.env) :: starEach [b] X.env := by rfl) (he2 : starEach [b] X.env = [(false, eval b X.env)] := by rfl) :
    DS (cx X s E) X (.Assign [.Tuple [.Name x px, .Name y py] kt pt] (.Tuple [a, b] k2 pt2) pos) (parX i j f fl) := dS (ps_par hc hN hi hj hij hx hy (pa_cons ha (pa_cons hb pa_nil he2) he) hw hs) (satS_parX sE sF)
end
end DL

set_option Elab.async false
set_option linter.all false
set_option maxRecDepth 100000
set_option maxHeartbeats 4000000
/-! DL44: what the laws' walks share. -/
namespace DL
open PySem PySem.Spec L2
theorem big {n : Nat} (h : n ≤ 1000000) : n ≤ sizeLine := Nat.le_of_lt (small n h)
theorem sum_const {α : Type} (ws : List α) (n : Nat) : (ws.map fun _ => n).sum = ws.length * n := by
  induction ws with
  | nil => simp
  | cons x r ih => rw [List.map_cons, List.sum_cons, ih, List.length_cons, Nat.succ_mul]; omega
theorem forM_rel {α : Type} {k : D → M Unit} {body : M Fl} {enc : α → D} (I : List α → Sg → Prop) (step : ∀ x r g, I (x :: r) g → ∃ g', goG (k (enc x)) body g = .ok .next g' ∧ I r g') : ∀ xs g, I xs g → ∃ g', forM (xs.map enc) k body g = .ok .next g' ∧ I [] g'
  | [], g, h => ⟨g, rfl, h⟩
  | x :: r, g, h => by
    obtain ⟨g', e, z⟩ := step x r g h
    have e2 : forM ((x :: r).map enc) k body g = (goG (k (enc x)) body g).bind fun f => match f with
      | .next => forM (r.map enc) k body
      | .cont => forM (r.map enc) k body
      | .brk => nextM
      | .ret d => pureM (.ret d) := by
      show goG (k (enc x)) (bindM body _) g = _
      unfold goG
      cases k (enc x) g <;> rfl
    rw [e2, e]
    exact forM_rel I step r g' z
theorem ints_map (w : List Int) : intsD (w.map PyData.int) = some w := by
  induction w with
  | nil => rfl
  | cons x r ih =>
    show (intsD (r.map PyData.int)).map (fun ns => x :: ns) = _
    rw [ih]
    rfl
theorem bls_map {α : Type} (xs : List α) (f : α → Bool) : blsD (xs.map fun x => PyData.bool (f x)) = some (xs.map f) := by
  induction xs with
  | nil => rfl
  | cons x r ih =>
    show (blsD (r.map fun x => PyData.bool (f x))).map (fun ns => f x :: ns) = _
    rw [ih]
    rfl
theorem all_bls {α : Type} (xs : List α) (f : α → Bool) : allD [.list (xs.map fun x => PyData.bool (f x))] = some (.bool (xs.all f)) := by
  show (blsD (xs.map fun x => PyData.bool (f x))).map (fun ns => PyData.bool (ns.all id)) = _
  rw [bls_map]
  show some (PyData.bool ((xs.map f).all id)) = _
  rw [List.all_map]
  rfl
theorem ev_go {β : Type} {k : M Unit} {f : M β} {g g1 : Sg} {r : Res β} (h : k g = .ok () g1) (h2 : f g1 = r) : goG k f g = r := by
  unfold goG
  rw [h]
  exact h2
def toFl : Option D → Fl
  | some d => .ret d
  | none => .next
theorem forM_find {α : Type} {k : D → M Unit} {body : M Fl} {enc : α → D} (r : α → Option D) (I : Sg → Prop) : ∀ (xs : List α), (∀ x ∈ xs, ∀ g, I g → ∃ g', goG (k (enc x)) body g = .ok (toFl (r x)) g' ∧ I g') → ∀ g, I g → ∃ g', forM (xs.map enc) k body g = .ok (toFl (xs.findSome? r)) g' ∧ I g'
  | [], _, g, h => ⟨g, rfl, h⟩
  | x :: xs, step, g, h => by
    obtain ⟨g', e, z⟩ := step x List.mem_cons_self g h
    have e2 : forM ((x :: xs).map enc) k body g = (goG (k (enc x)) body g).bind fun f => match f with
      | .next => forM (xs.map enc) k body
      | .cont => forM (xs.map enc) k body
      | .brk => nextM
      | .ret d => pureM (.ret d) := by
      show goG (k (enc x)) (bindM body _) g = _
      unfold goG
      cases k (enc x) g <;> rfl
    rw [e2, e, List.findSome?_cons]
    cases r x with
    | some d => exact ⟨g', rfl, z⟩
    | none => exact forM_find r I xs (fun y hy => step y (List.mem_cons_of_mem _ hy)) g' z
theorem raises_fn {n N : Nat} {m : List Int → M Fl} {ns : List Int} {ss : List Slot} {ct ct' : Int} {nm : Str} (hl : ss.length = n) (h : m ns ⟨ss ++ List.replicate (N - ss.length) .no, ct⟩ = .exc nm ct') : fn n N m ns ss ct = .exc nm ct' := by
  unfold fn
  rw [if_pos hl]
  unfold runF
  rw [h]
theorem ev_drop {α : Type} {f : M α} {a : α} {g g1 : Sg} (h : f g = .ok a g1) : dropM f g = .ok .next g1 := ev_bind h rfl
theorem ev_nextX {f k : M Fl} {g g1 : Sg} {n : Str} {ct : Int} (h : f g = .ok .next g1) (h2 : k g1 = .exc n ct) : seqM f k g = .exc n ct := ev_next h h2
theorem ev_retX {f : M D} {g : Sg} {n : Str} {ct : Int} (h : f g = .exc n ct) : retM f g = .exc n ct := by
  show (f g).bind _ = _
  rw [h]
  rfl
theorem ev_op2X {h : D → D → Option D} {f k : M D} {g : Sg} {n : Str} {ct : Int} (h1 : f g = .exc n ct) : op2 h f k g = .exc n ct := by
  show (f g).bind _ = _
  rw [h1]
  rfl
theorem ev_asgX {f : M D} {k : D → M Unit} {g : Sg} {n : Str} {ct : Int} (h : f g = .exc n ct) : asgM f k g = .exc n ct := by
  show (f g).bind _ = _
  rw [h]
  rfl
theorem ev_orF {f k : M Bool} {g g1 : Sg} {r : Res Bool} (h : f g = .ok false g1) (h2 : k g1 = r) : orM f k g = r := ev_bind h h2
theorem ev_orT {f k : M Bool} {g g1 : Sg} (h : f g = .ok true g1) : orM f k g = .ok true g1 := ev_bind h rfl
theorem ev_andT {f k : M Bool} {g g1 : Sg} {r : Res Bool} (h : f g = .ok true g1) (h2 : k g1 = r) : andM f k g = r := ev_bind h h2
theorem ev_andF {f k : M Bool} {g g1 : Sg} (h : f g = .ok false g1) : andM f k g = .ok false g1 := ev_bind h rfl
theorem ev_not {f : M Bool} {g g1 : Sg} {b : Bool} (h : f g = .ok b g1) : notM f g = .ok (!b) g1 := ev_bind h rfl
theorem ev_dropX {α : Type} {f : M α} {g : Sg} {n : Str} {ct : Int} (h : f g = .exc n ct) : dropM f g = .exc n ct := by
  show (f g).bind _ = _
  rw [h]
  rfl
theorem ev_lstX {f : M (List D)} {g : Sg} {n : Str} {ct : Int} (h : f g = .exc n ct) : lstM f g = .exc n ct := by
  show (f g).bind _ = _
  rw [h]
  rfl
theorem ev_asBX {f : M D} {g : Sg} {n : Str} {ct : Int} (h : f g = .exc n ct) : asB f g = .exc n ct := by
  show (f g).bind _ = _
  rw [h]
  rfl
theorem ev_opNX {o : List D → Option D} {f : M (List D)} {g : Sg} {n : Str} {ct : Int} (h : f g = .exc n ct) : opN o f g = .exc n ct := by
  show (f g).bind _ = _
  rw [h]
  rfl
theorem ev_consX {f : M D} {r : M (List D)} {g : Sg} {n : Str} {ct : Int} (h : f g = .exc n ct) : consM f r g = .exc n ct := by
  show (f g).bind _ = _
  rw [h]
  rfl
theorem ev_andX {f k : M Bool} {g g1 : Sg} {n : Str} {ct : Int} (h : f g = .ok true g1) (h2 : k g1 = .exc n ct) : andM f k g = .exc n ct := ev_bind h h2
theorem ev_whF {n : Nat} {c : M Bool} {body : M Fl} {g g1 : Sg} (h : c g = .ok false g1) : whileM (n + 1) c body g = .ok .next g1 := ev_bind h rfl
theorem ev_whT {n : Nat} {c : M Bool} {body : M Fl} {g g1 g2 : Sg} {r : Res Fl} (h : c g = .ok true g1) (h1 : body g1 = .ok .next g2) (h2 : whileM n c body g2 = r) : whileM (n + 1) c body g = r := ev_bind h (ev_bind h1 h2)
theorem ev_whX {n : Nat} {c : M Bool} {body : M Fl} {g : Sg} {nm : Str} {ct : Int} (h : c g = .exc nm ct) : whileM (n + 1) c body g = .exc nm ct := by
  show (c g).bind _ = _
  rw [h]
  rfl
theorem rngI_cons {a b : Int} (h : a < b) : rngI a b = a :: rngI (a + 1) b := by
  unfold rngI
  obtain ⟨n, hn⟩ : ∃ n, (b - a).toNat = n + 1 := ⟨(b - a).toNat - 1, by omega⟩
  rw [hn, show (b - (a + 1)).toNat = n by omega, List.range_succ_eq_map, List.map_cons, List.map_map]
  congr 1
  · simp
  · apply List.map_congr_left
    intro k _
    show a + ((k + 1 : Nat) : Int) = a + 1 + (k : Int)
    omega
theorem rngI_nil {a b : Int} (h : b ≤ a) : rngI a b = [] := by
  unfold rngI
  rw [show (b - a).toNat = 0 by omega]
  rfl
theorem rngI_inv {a b x : Int} {r : List Int} (h : x :: r = rngI a b) : x = a ∧ a < b ∧ r = rngI (a + 1) b := by
  by_cases hb : a < b
  · rw [rngI_cons hb] at h
    injection h with h1 h2
    exact ⟨h1, hb, h2⟩
  · rw [rngI_nil (by omega)] at h
    cases h
theorem ev_pop0 {i : Nat} {f : M D} {g g1 : Sg} {ys xs : List D} {x : D} (h0 : g.sl[i]? = some (.own ys)) (hf : f g = .ok (.int 0) g1) (h : g1.sl[i]? = some (.own (x :: xs))) : popM i f g = .ok x { g1 with sl := g1.sl.set i (.own xs) } := by
  unfold popM
  simp only [h0]
  refine ev_bind hf ?_
  simp only [h]
  rw [if_pos (by omega)]
  have e : seqIndex? 0 (x :: xs).length = some 0 := by
    unfold seqIndex?
    simp
  rw [e]
  rfl
theorem ev_try {nm : Str → Option Str} {f : M Fl} {g g1 : Sg} {fl : Fl} (h : f g = .ok fl g1) : tryM nm f g = .ok fl g1 := by
  unfold tryM
  rw [h]
theorem ev_tryX {nm : Str → Option Str} {f : M Fl} {g : Sg} {n z : Str} {ct : Int} (h : f g = .exc n ct) (hz : nm n = some z) : tryM nm f g = .ok (.ret (.str z)) ⟨g.sl.map fun _ => .no, ct⟩ := by
  unfold tryM
  rw [h]
  show (match nm n with
    | some z => Res.ok (Fl.ret (.str z)) ⟨g.sl.map fun _ => .no, ct⟩
    | none => .bad) = _
  rw [hz]
theorem ev_tupX {f : M (List D)} {g : Sg} {n : Str} {ct : Int} (h : f g = .exc n ct) : tupM f g = .exc n ct := by
  show (f g).bind _ = _
  rw [h]
  rfl
theorem ev_consX2 {f : M D} {r : M (List D)} {g g1 : Sg} {d : D} {n : Str} {ct : Int} (h0 : f g = .ok d g1) (h : r g1 = .exc n ct) : consM f r g = .exc n ct := by
  refine ev_bind h0 ?_
  show (r g1).bind _ = _
  rw [h]
  rfl
theorem ev_pick {hs : List FnM} {h : FnM} {ns : List Int} {fi : M D} {fx : M (List Slot)} {g g1 : Sg} {i : Int} {r : Res D} (hi : fi g = .ok (.int i) g1) (hh : L2.atI hs i = some h) (hr : callM h ns fx g1 = r) : pickM hs ns fi fx g = r := by
  refine ev_bind hi (ev_bind (a := h) (g1 := g1) ?_ hr)
  show (liftO (L2.atI hs i)) g1 = _
  rw [hh]
  rfl
def tellD (v : D) : D := .tuple [.str "told", v]
theorem lcLoop_st {k : D → M Unit} {c : M Bool} {e : M D} {vs : List Nat} {G : Int → Sg} (hG : ∀ c, (G c).forget vs = G c) :
    ∀ (xs : List Int) (acc : List D) (ct : Int), (∀ x ∈ xs, ∀ c', ct ≤ c' → c' < ct + xs.length → ∃ b g2 g3, k (.int x) (G c') = .ok () g2 ∧ c g2 = .ok b g3 ∧ (b = false → g3.forget vs = G (c' + 1)) ∧ (b = true → ∃ g4, e g3 = .ok (.int x) g4 ∧ g4.forget vs = G (c' + 1))) → acc.length + xs.length ≤ sizeLine →
      ∃ ys : List Int, ys.Sublist xs ∧ lcLoop k c e vs (xs.map PyData.int) acc (G ct) = .ok (acc ++ ys.map PyData.int) (G (ct + xs.length))
  | [], acc, ct, _, _ => by
    refine ⟨[], List.Sublist.refl _, ?_⟩
    show Res.ok acc ((G ct).forget vs) = _
    rw [hG]
    simp
  | x :: r, acc, ct, h, hz => by
    obtain ⟨b, g2, g3, h1, h2, h3, h4⟩ := h x List.mem_cons_self ct (Int.le_refl _) (by rw [List.length_cons]; omega)
    rw [List.length_cons] at hz
    have hn : ct + ((x :: r).length : Nat) = (ct + 1) + (r.length : Nat) := by rw [List.length_cons]; omega
    have e2 : (calmM c) g2 = .ok b g3 := by unfold calmM; rw [h2]; rfl
    have hr : ∀ y ∈ r, ∀ c', ct + 1 ≤ c' → c' < ct + 1 + r.length → ∃ b g2 g3, k (.int y) (G c') = .ok () g2 ∧ c g2 = .ok b g3 ∧ (b = false → g3.forget vs = G (c' + 1)) ∧ (b = true → ∃ g4, e g3 = .ok (.int y) g4 ∧ g4.forget vs = G (c' + 1)) :=
      fun y hy c' hc1 hc2 => h y (List.mem_cons_of_mem _ hy) c' (by omega) (by rw [List.length_cons]; omega)
    rw [hn]
    cases b with
    | false =>
      obtain ⟨ys, hs, e⟩ := lcLoop_st hG r acc (ct + 1) hr (by omega)
      refine ⟨ys, hs.cons x, ?_⟩
      show goG (k (.int x)) _ (G ct) = _
      unfold goG
      rw [h1]
      show ((calmM c) g2).bind _ = _
      rw [e2]
      show lcLoop k c _ vs (r.map PyData.int) acc (g3.forget vs) = _
      rw [h3 rfl]
      exact e
    | true =>
      obtain ⟨g4, e4, hg4⟩ := h4 rfl
      obtain ⟨ys, hs, e'⟩ := lcLoop_st hG r (acc ++ [.int x]) (ct + 1) hr (by rw [List.length_append]; simp; omega)
      refine ⟨x :: ys, hs.cons₂ x, ?_⟩
      show goG (k (.int x)) _ (G ct) = _
      unfold goG
      rw [h1]
      show ((calmM c) g2).bind _ = _
      rw [e2]
      show ((calmM e) g3).bind _ = _
      have e3 : (calmM e) g3 = .ok (.int x) g4 := by unfold calmM; rw [e4]; rfl
      rw [e3]
      show pushM acc (.int x) (fun acc' => afterM vs (lcLoop k c e vs (r.map PyData.int) acc')) g4 = _
      unfold pushM
      rw [if_pos (by omega)]
      show lcLoop k c e vs (r.map PyData.int) (acc ++ [.int x]) (g4.forget vs) = _
      rw [hg4, e']
      simp
theorem rngI_lt (a b : Int) : (rngI a b).Pairwise (· < ·) := by
  unfold rngI
  rw [List.pairwise_map]
  exact List.pairwise_lt_range.imp fun h => by omega
theorem nice_shaped {k n : Nat} {d : D} (h : Nice k n d) (hk : k ≤ 64) : SeqAt.shaped d = true := by
  show (d.canLay0 && decide (d.depth ≤ 64)) = true
  rw [h.c, decide_eq_true (Nat.le_trans h.dp hk)]
  rfl
theorem n_told : Nice 0 20 (.str "told") := nice_of (by decide +kernel)
theorem n_large : Nice 0 20 (.str "large") := nice_of (by decide +kernel)
theorem n_missing : Nice 0 20 (.str "missing") := nice_of (by decide +kernel)
theorem n_tell {k n : Nat} {v : D} (h : Nice k n v) (hn : 20 ≤ n) : Nice (k + 1) (2 * (n + 1)) (tellD v) := Nice.tuple (fun x hx => by
  rcases List.mem_cons.mp hx with e | hx
  · rw [e]; exact n_told.mono (Nat.zero_le _) hn
  · obtain rfl := List.mem_singleton.mp hx
    exact h) (Nat.le_refl 2)
def mNext (ns : List Int) : M Fl :=
  (seqM (stSet 0 (op2 addD (st1M 0) (pureM (.int 1))))
  (seqM (asgM (op2 fdivD (st1M 0) (opN lenD (consM (st0M 0 ns) (pureM [])))) (putM 2))
  (seqM (retM (op2 modD (opN intD (consM (op2 addD (op2 addD (op2 ixD (st0M 0 ns) (op2 modD (st1M 0) (opN lenD (consM (st0M 0 ns) (pureM []))))) (op2 mulXD (getM 2) (pureM (.int 389)))) (op2 mulXD (op2 mulXD (st1M 0) (getM 2)) (pureM (.int 17)))) (pureM []))) (getM 1)))
  nextM)))
def hNext : FnM := fn 2 3 mNext
def mSame (ns : List Int) : M Fl :=
  (seqM (retM (op2 eqD (opN reprD (consM (lstM (guardL (consM (getM 0) (pureM [])))) (pureM []))) (opN reprD (consM (lstM (guardL (consM (getM 1) (pureM [])))) (pureM [])))))
  nextM)
def hSame : FnM := fn 2 2 mSame
theorem next_tells (ns : List Int) (k ct : Int) (h0 : ns ≠ []) (h1 : ns.length ≤ 4000) (hc0 : 0 ≤ ct) (hc : ct ≤ 1000) (hk : 0 < k) : ∃ v, 0 ≤ v ∧ v < k ∧ Tells hNext ns [.sta, .dat (.int k)] ct (.int v) (ct + 1) := by
  have hl : 0 < ns.length := List.length_pos_iff.mpr h0
  let len : Int := (ns.length : Nat)
  let t : Int := (ct + 1).fdiv len
  have hlen : 0 < len := by show 0 < ((ns.length : Nat) : Int); omega
  obtain ⟨j, hj⟩ : ∃ j : Nat, (ct + 1).fmod len = (j : Int) := ⟨((ct + 1).fmod len).toNat, (Int.toNat_of_nonneg (Int.fmod_nonneg_of_pos _ hlen)).symm⟩
  have hjl : j < ns.length := by
    have := Int.fmod_lt_of_pos (ct + 1) hlen
    rw [hj] at this
    have : (j : Int) < ((ns.length : Nat) : Int) := this
    omega
  obtain ⟨x, hx⟩ : ∃ x, ns[j]? = some x := ⟨ns[j], List.getElem?_eq_getElem hjl⟩
  let v : Int := (x + t * 389 + (ct + 1) * t * 17).fmod k
  refine ⟨v, Int.fmod_nonneg_of_pos _ hk, Int.fmod_lt_of_pos _ hk, ?_⟩
  let S1 : Sg := ⟨[.sta, .dat (.int k), .no], ct + 1⟩
  let S2 : Sg := ⟨[.sta, .dat (.int k), .dat (.int t)], ct + 1⟩
  refine tells_fn (ct := ct) (g := S2) rfl ?_
  have el1 : (opN lenD (consM (st0M 0 ns) (pureM []))) S1 = .ok (.int len) S1 := by
    refine ev_opN (xs := [.list (ns.map PyData.int)]) rfl ?_
    show some (PyData.int ((ns.map PyData.int).length : Nat)) = _
    rw [List.length_map]
  have el2 : (opN lenD (consM (st0M 0 ns) (pureM []))) S2 = .ok (.int len) S2 := by
    refine ev_opN (xs := [.list (ns.map PyData.int)]) rfl ?_
    show some (PyData.int ((ns.map PyData.int).length : Nat)) = _
    rw [List.length_map]
  have e2 : (asgM (op2 fdivD (st1M 0) (opN lenD (consM (st0M 0 ns) (pureM [])))) (putM 2)) S1 = .ok .next S2 := by
    refine ev_asg (g1 := S1) (d := .int t) (ev_op2 (g1 := S1) (g2 := S1) (x := .int (ct + 1)) rfl el1 ?_) rfl
    show (if decide (len ≠ 0 ∧ len.natAbs < 1073741824) = true then some (PyData.int t) else none) = _
    rw [decide_eq_true ⟨by omega, by show ((ns.length : Nat) : Int).natAbs < 1073741824; omega⟩, if_pos rfl]
  have e3 : (op2 modD (st1M 0) (opN lenD (consM (st0M 0 ns) (pureM [])))) S2 = .ok (.int (j : Nat)) S2 := by
    refine ev_op2 (g1 := S2) (g2 := S2) (x := .int (ct + 1)) rfl el2 ?_
    show (if decide (len ≠ 0) = true then some (PyData.int ((ct + 1).fmod len)) else none) = _
    rw [decide_eq_true (by omega), if_pos rfl, hj]
  have e4 : (op2 ixD (st0M 0 ns) (op2 modD (st1M 0) (opN lenD (consM (st0M 0 ns) (pureM []))))) S2 = .ok (.int x) S2 := by
    refine ev_op2 (g1 := S2) (g2 := S2) (x := .list (ns.map PyData.int)) rfl e3 ?_
    exact L2.atI_nat (by rw [List.getElem?_map, hx]; rfl)
  have e5 : (op2 mulXD (getM 2) (pureM (.int 389))) S2 = .ok (.int (t * 389)) S2 := by
    refine ev_op2 (g1 := S2) (g2 := S2) (x := .int t) (y := .int 389) rfl rfl ?_
    show (if (smallI t || smallI 389) = true then some (PyData.int (t * 389)) else none) = _
    rw [show smallI 389 = true by decide, Bool.or_true, if_pos rfl]
  have e6 : (op2 mulXD (op2 mulXD (st1M 0) (getM 2)) (pureM (.int 17))) S2 = .ok (.int ((ct + 1) * t * 17)) S2 := by
    refine ev_op2 (g1 := S2) (g2 := S2) (x := .int ((ct + 1) * t)) (y := .int 17) (ev_op2 (g1 := S2) (g2 := S2) (x := .int (ct + 1)) (y := .int t) rfl rfl ?_) rfl ?_
    · show (if (smallI (ct + 1) || smallI t) = true then some (PyData.int ((ct + 1) * t)) else none) = _
      rw [show smallI (ct + 1) = true from decide_eq_true ⟨by omega, by omega⟩, Bool.true_or, if_pos rfl]
    · show (if (smallI ((ct + 1) * t) || smallI 17) = true then some (PyData.int ((ct + 1) * t * 17)) else none) = _
      rw [show smallI 17 = true by decide, Bool.or_true, if_pos rfl]
  refine ev_next (g1 := S1) rfl (ev_next e2 (ev_stop (ev_ret (g1 := S2) (d := .int v) (ev_op2 (g1 := S2) (g2 := S2) (x := .int (x + t * 389 + (ct + 1) * t * 17)) (y := .int k) (ev_opN (xs := [.int (x + t * 389 + (ct + 1) * t * 17)]) (ev_cons (g1 := S2) (ev_op2 (g1 := S2) (g2 := S2) (ev_op2 (g1 := S2) (g2 := S2) e4 e5 rfl) e6 rfl) rfl) rfl) rfl ?_)) (fun z => nomatch z)))
  show (if decide (k ≠ 0) = true then some (PyData.int v) else none) = _
  rw [decide_eq_true (by omega), if_pos rfl]
theorem same_tells (ns : List Int) (d : D) (ct : Int) (h : Nice 40 1000000 d) : Tells hSame ns [.dat d, .dat d] ct (.bool true) ct := by
  obtain ⟨h1, h2⟩ := repr_nice h
  let S : Sg := ⟨[.dat d, .dat d], ct⟩
  refine tells_fn (g := S) rfl (ev_stop (ev_ret (ev_op2 (g1 := S) (g2 := S) (ev_opN (xs := [.list [d]]) (ev_cons (g1 := S) (ev_lst (ev_guard (ds := [d]) rfl (big (n := 1) (by decide)))) rfl) h1) (ev_opN (xs := [.list [d]]) (ev_cons (g1 := S) (ev_lst (ev_guard (ds := [d]) rfl (big (n := 1) (by decide)))) rfl) h1) h2)) (fun z => nomatch z))
end DL

set_option Elab.async false
set_option linter.all false
set_option maxRecDepth 100000
set_option maxHeartbeats 4000000
/-! DL45: straight pieces are run by simp; loops that gather. -/
namespace DL
open PySem PySem.Spec L2
theorem seq_mk (f k : M Fl) (g : Sg) : seqM f k g = match f g with
  | .ok .next g' => k g'
  | .ok x g' => .ok x g'
  | .exc n ct => .exc n ct
  | .bad => .bad := by
  unfold seqM bindM
  cases h : f g with
  | ok a g' => cases a <;> rfl
  | _ => rfl
section
variable {α β : Type} {f k l : M D} {b b2 : M Bool} {p q : M α} {g : Sg} {r : M (List D)}
@[simp] theorem x_bind {f : M α} {k : α → M β} : bindM f k g = (f g).bind k := rfl
@[simp] theorem x_seq {f k : M Fl} : seqM f k g = match f g with
  | .ok .next g' => k g'
  | .ok x g' => .ok x g'
  | .exc n ct => .exc n ct
  | .bad => .bad := seq_mk f k g
@[simp] theorem x_if : ifM b p q g = (b g).bind fun z => if z = true then p else q := rfl
@[simp] theorem x_asB : asB f g = (f g).bind fun d => match d with
  | .bool b => pureM b
  | _ => fun _ => .bad := rfl
@[simp] theorem x_op1 {h : D → Option D} : op1 h f g = (f g).bind fun x => liftO (h x) := rfl
@[simp] theorem x_op2 {h : D → D → Option D} : op2 h f k g = (f g).bind fun x => bindM k fun y => liftO (h x y) := rfl
@[simp] theorem x_opN {h : List D → Option D} : opN h r g = (r g).bind fun x => liftO (h x) := rfl
@[simp] theorem x_get {i : Nat} : getM i g = match g.sl[i]? with
  | some (.dat d) => .ok d g
  | some (.own xs) => .ok (.list xs) { g with sl := g.sl.set i (.dat (.list xs)) }
  | some (.ownT kvs) => .ok (dT kvs) { g with sl := g.sl.set i (.dat (dT kvs)) }
  | some (.ownK kvs) => .ok (dK kvs) { g with sl := g.sl.set i (.dat (dK kvs)) }
  | _ => .bad := rfl
@[simp] theorem x_put {i : Nat} {d : D} : putM i d g = .ok () { g with sl := g.sl.set i (.dat d) } := rfl
@[simp] theorem x_liftS {a : α} : liftO (some a) g = .ok a g := rfl
@[simp] theorem x_go {m : M Unit} : goG m p g = match m g with
  | .ok _ g' => p g'
  | _ => .bad := rfl
@[simp] theorem x_asg {m : D → M Unit} : asgM f m g = (f g).bind fun d => goG (m d) nextM := rfl
@[simp] theorem x_asgF {i : Nat} : asgF r i g = (r g).bind fun xs => fun g => .ok .next { g with sl := g.sl.set i (.own xs) } := rfl
@[simp] theorem x_cons : consM f r g = (f g).bind fun d => bindM r fun ds => pureM (d :: ds) := rfl
@[simp] theorem x_pure {a : α} : pureM a g = .ok a g := rfl
@[simp] theorem x_next : nextM g = .ok .next g := rfl
@[simp] theorem x_ret : retM f g = (f g).bind fun d => pureM (.ret d) := rfl
@[simp] theorem x_tup : tupM r g = (r g).bind fun ds => if ds.length ≤ sizeLine then pureM (.tuple ds) else fun _ => .bad := rfl
@[simp] theorem x_lst : lstM r g = (r g).bind fun ds => pureM (.list ds) := rfl
@[simp] theorem x_guard : guardL r g = (r g).bind fun ds => if ds.length ≤ sizeLine then pureM ds else fun _ => .bad := rfl
@[simp] theorem x_dats : datsM r g = (r g).bind fun ds => pureM (ds.map .dat) := rfl
@[simp] theorem x_drop : dropM p g = (p g).bind fun _ => nextM := rfl
@[simp] theorem x_call {h : FnM} {ns : List Int} {s : M (List Slot)} : callM h ns s g = (s g).bind fun ss g => match h ns ss g.ct with
  | .ok d g' => .ok d { g with ct := g'.ct }
  | .exc n ct => .exc n ct
  | .bad => .bad := rfl
@[simp] theorem x_and : andM b b2 g = (b g).bind fun z => if z = true then b2 else pureM false := rfl
@[simp] theorem x_or : orM b b2 g = (b g).bind fun z => if z = true then pureM true else b2 := rfl
@[simp] theorem x_not : notM b g = (b g).bind fun z => pureM (!z) := rfl
@[simp] theorem x_raise {n : Str} : (raiseM n : M α) g = .exc n g.ct := rfl
@[simp] theorem x_yes : yesM g = .ok true g := rfl
@[simp] theorem x_srcM : srcM f g = (f g).bind fun d => liftO (itemsD d) := rfl
@[simp] theorem x_srcA {h : List D → Option (List D)} : srcA h r g = (r g).bind fun ds => liftO (h ds) := rfl
@[simp] theorem x_par {i j : Nat} : parM i j r g = (r g).bind fun ds => match ds with
  | [x, y] => fun g => .ok .next { g with sl := (g.sl.set i (.dat x)).set j (.dat y) }
  | _ => fun _ => .bad := rfl
@[simp] theorem x_aug {i : Nat} {h : D → D → Option D} : augM i h f g = match g.sl[i]? with
  | some (.dat x) => bindM f (fun y => bindM (liftO (h x y)) fun z => goG (putM i z) nextM) g
  | _ => .bad := rfl
@[simp] theorem x_app {i : Nat} : appM i f g = match g.sl[i]? with
  | some (.own _) => bindM f (fun d g' => match g'.sl[i]? with
    | some (.own xs) => if xs.length < sizeLine then .ok .next { g' with sl := g'.sl.set i (.own (xs ++ [d])) } else .bad
    | _ => .bad) g
  | _ => .bad := rfl
@[simp] theorem x_chain {h h' : D → D → Option D} : chainM h h' f k l g = (f g).bind fun x => bindM k fun y => bindM (liftO (h x y)) fun b => match b with
  | .bool true => bindM l fun z => liftO (h' y z)
  | .bool false => pureM (.bool false)
  | _ => fun _ => .bad := rfl
@[simp] theorem x_gt {i j : Int} : gtD (.int i) (.int j) = some (.bool (decide (j < i))) := rfl
@[simp] theorem x_lt {i j : Int} : ltD (.int i) (.int j) = some (.bool (decide (i < j))) := rfl
@[simp] theorem x_le {i j : Int} : leD (.int i) (.int j) = some (.bool (decide (i ≤ j))) := rfl
@[simp] theorem x_sub {i j : Int} : subD (.int i) (.int j) = some (.int (i - j)) := rfl
@[simp] theorem x_add {i j : Int} : addD (.int i) (.int j) = some (.int (i + j)) := rfl
@[simp] theorem x_eq {i j : Int} : eqD (.int i) (.int j) = some (.bool (i == j)) := rfl
@[simp] theorem x_i2 {h : Int → Int → D} {i j : Int} : i2D (fun _ _ => true) h (.int i) (.int j) = some (h i j) := rfl
@[simp] theorem x_neg {i : Int} : negD (.int i) = some (.int (-i)) := rfl
@[simp] theorem x_fs {s : List Slot} {c : Int} {is : List Nat} : Sg.forget ⟨s, c⟩ is = ⟨is.foldr (fun i l => l.set i .no) s, c⟩ := rfl
@[simp] theorem x_for {src : M (List D)} {m : D → M Unit} {body : M Fl} : forS src m body g = (src g).bind fun xs => forM xs m body := rfl
@[simp] theorem x_tupG {ds : List D} {n : Nat} {m : List D → M Unit} : tupG n m (.tuple ds) = if ds.length = n then m ds else fun _ => .bad := rfl
@[simp] theorem x_gCons {d : D} {ds : List D} {m : D → M Unit} {m2 : List D → M Unit} : gConsM m m2 (d :: ds) g = (m d g).bind fun _ => m2 ds := rfl
@[simp] theorem x_gNil : gNilM [] g = .ok () g := rfl
@[simp] theorem x_ixI {i : Nat} : ixV i f g = match seqAt g i with
  | some _ => bindM f (fun k g' => match seqAt g' i, k with
    | some xs, .int j => liftO (L2.atI xs j) g'
    | _, _ => .bad) g
  | none => .bad := rfl
@[simp] theorem x_seqAt {i : Nat} : seqAt g i = match g.sl[i]? with
  | some (.own xs) => some xs
  | some (.dat d) => seqD d
  | _ => none := rfl
@[simp] theorem x_lenV {i : Nat} : lenV i g = match seqAt g i with
  | some xs => .ok (.int (xs.length : Nat)) g
  | none => .bad := rfl
@[simp] theorem x_ixT {xs : List D} {i : Int} : ixD (.tuple xs) (.int i) = L2.atI xs i := rfl
@[simp] theorem x_ixL {xs : List D} {i : Int} : ixD (.list xs) (.int i) = L2.atI xs i := rfl
@[simp] theorem x_mk {s : Sg} : (⟨s.sl, s.ct⟩ : Sg) = s := rfl
end
theorem size_le (n : Nat) (h : n ≤ 1000000) : n ≤ sizeLine := Nat.le_of_lt (small n h)
@[simp] theorem sz0 : 0 ≤ sizeLine := Nat.zero_le _
@[simp] theorem sz1 : 1 ≤ sizeLine := size_le 1 (by decide)
@[simp] theorem sz2 : 2 ≤ sizeLine := size_le 2 (by decide)
theorem small_of {i : Int} (h1 : -1000000 ≤ i) (h2 : i ≤ 1000000) : smallI i = true := decide_eq_true ⟨Int.lt_of_lt_of_le (by decide) h1, Int.lt_of_le_of_lt h2 (by decide)⟩
theorem modN (a n : Nat) (h : n ≠ 0) : modD (.int (a : Nat)) (.int (n : Nat)) = some (.int ((a % n : Nat) : Int)) := by
  show (if decide (((n : Nat) : Int) ≠ 0) = true then some (PyData.int (((a : Nat) : Int).fmod ((n : Nat) : Int))) else none) = _
  rw [if_pos (decide_eq_true (by omega)), Int.fmod_eq_emod_of_nonneg _ (by omega)]
  rfl
theorem fdiv2 (a : Nat) : fdivD (.int (a : Nat)) (.int 2) = some (.int ((a / 2 : Nat) : Int)) := by
  show (if decide ((2 : Int) ≠ 0 ∧ (2 : Int).natAbs < 1073741824) = true then some (PyData.int (((a : Nat) : Int).fdiv 2)) else none) = _
  rw [if_pos (by decide), Int.fdiv_eq_ediv_of_nonneg _ (by omega)]
  rfl
theorem mulS {i j : Int} (h : smallI i = true ∨ smallI j = true) : mulXD (.int i) (.int j) = some (.int (i * j)) := by
  show (if (smallI i || smallI j) = true then some (PyData.int (i * j)) else none) = _
  rw [if_pos (by rcases h with h | h <;> simp [h])]
@[simp] theorem len_T (w : List Int) : lenD [eT w] = some (.int (w.length : Nat)) := by
  show some (PyData.int ((w.map PyData.int).length : Nat)) = _
  rw [List.length_map]
@[simp] theorem len_L (w : List D) : lenD [.list w] = some (.int (w.length : Nat)) := rfl
@[simp] theorem items_T (w : List Int) : itemsD (eT w) = some (w.map PyData.int) := rfl
@[simp] theorem items_L (w : List D) : itemsD (.list w) = some w := rfl
/-- a loop that gathers -/
theorem forM_acc {α : Type} {k : D → M Unit} {body : M Fl} (enc : α → D) (P : List D → Sg → Prop) (f : α → List D) (N : Nat) : ∀ (xs : List α), (∀ x ∈ xs, ∀ acc g, P acc g → acc.length + (f x).length ≤ N → ∃ g', goG (k (enc x)) body g = .ok .next g' ∧ P (acc ++ f x) g') →
    ∀ acc g, P acc g → acc.length + (xs.flatMap f).length ≤ N → ∃ g', forM (xs.map enc) k body g = .ok .next g' ∧ P (acc ++ xs.flatMap f) g'
  | [], _, acc, g, h, _ => ⟨g, rfl, by simpa using h⟩
  | x :: r, hs, acc, g, h, hn => by
    have e2 : forM ((x :: r).map enc) k body g = (goG (k (enc x)) body g).bind fun f => match f with
      | .next => forM (r.map enc) k body
      | .cont => forM (r.map enc) k body
      | .brk => nextM
      | .ret d => pureM (.ret d) := by
      show goG (k (enc x)) (bindM body _) g = _
      unfold goG
      cases k (enc x) g <;> rfl
    rw [List.flatMap_cons, List.length_append] at hn
    obtain ⟨g1, e1, h1⟩ := hs x List.mem_cons_self acc g h (by omega)
    obtain ⟨g2, e3, h3⟩ := forM_acc enc P f N r (fun y hy => hs y (List.mem_cons_of_mem _ hy)) _ g1 h1 (by rw [List.length_append]; omega)
    refine ⟨g2, ?_, ?_⟩
    · rw [e2, e1]
      exact e3
    · rw [List.flatMap_cons, ← List.append_assoc]
      exact h3
theorem flat_one {α : Type} (f : α → D) (xs : List α) : (xs.flatMap fun x => [f x]) = xs.map f := by
  induction xs with
  | nil => rfl
  | cons x r ih => rw [List.flatMap_cons, ih]; rfl
end DL

set_option Elab.async false
set_option linter.all false
set_option maxRecDepth 100000
set_option maxHeartbeats 4000000
/-! DL46: data whose repr is in reach, with longer numbers. -/
namespace DL
open PySem PySem.Spec L2
structure Fine (k n : Nat) (d : D) : Prop where
  s : d.showable = true
  c : d.canLay0 = true
  l : d.leavesShort 100 = true
  t : okT d.shown
  dp : d.depth ≤ k
  w : d.weight ≤ n
theorem Fine.mono {k n k' n' : Nat} {d : D} (h : Fine k n d) (hk : k ≤ k') (hn : n ≤ n') : Fine k' n' d := ⟨h.s, h.c, h.l, h.t, Nat.le_trans h.dp hk, Nat.le_trans h.w hn⟩
def fineB (d : D) : Bool := d.showable && d.canLay0 && d.leavesShort 100 && d.shown.cps.toList.all (fun c => decide (c < 0x110000)) && decide (d.depth ≤ 0) && decide (d.weight ≤ 20)
theorem fine_of {d : D} (h : fineB d = true) : Fine 0 20 d := by
  unfold fineB at h
  simp only [Bool.and_eq_true] at h
  obtain ⟨⟨⟨⟨⟨h1, h2⟩, h3⟩, h4⟩, h5⟩, h6⟩ := h
  exact ⟨h1, h2, h3, fun c hc => of_decide_eq_true (List.all_eq_true.mp h4 c hc), of_decide_eq_true h5, of_decide_eq_true h6⟩
theorem fine_ints : ∀ k ∈ List.range 1401, fineB (.int ((k : Int) - 200)) = true := by decide +kernel
theorem Fine.int {i : Int} (h1 : -200 ≤ i) (h2 : i ≤ 1200) : Fine 0 20 (.int i) := by
  have := fine_ints (i + 200).toNat (List.mem_range.mpr (by omega))
  have e : (((i + 200).toNat : Nat) : Int) - 200 = i := by omega
  rw [e] at this
  exact fine_of this
theorem Fine.bool (b : Bool) : Fine 0 20 (.bool b) := by cases b <;> exact fine_of (by decide +kernel)
theorem Fine.none : Fine 0 20 .none := fine_of (by decide +kernel)
theorem fine_all {k n : Nat} : ∀ xs : List D, (∀ x ∈ xs, Fine k n x) → PyData.showableAll xs = true ∧ PyData.canLayAll0 xs = true ∧ PyData.leavesShortAll 100 xs = true ∧ (∀ t ∈ PyData.shownAll xs, okT t) ∧ PyData.depthAll xs ≤ k ∧ PyData.weightAll xs ≤ xs.length * (n + 1)
  | [], _ => ⟨rfl, rfl, rfl, (fun t ht => by cases ht), Nat.zero_le _, Nat.zero_le _⟩
  | x :: r, h => by
    obtain ⟨h1, h2, h3, h4, h5, h6⟩ := fine_all r fun y hy => h y (List.mem_cons_of_mem _ hy)
    have hx := h x List.mem_cons_self
    refine ⟨?_, ?_, ?_, fun t ht => ?_, ?_, ?_⟩
    · show (x.showable && PyData.showableAll r) = true
      rw [hx.s, h1]; rfl
    · show (x.canLay0 && PyData.canLayAll0 r) = true
      rw [hx.c, h2]; rfl
    · show (x.leavesShort 100 && PyData.leavesShortAll 100 r) = true
      rw [hx.l, h3]; rfl
    · rw [PyData.shownAll_cons] at ht
      rcases List.mem_cons.mp ht with rfl | ht
      · exact hx.t
      · exact h4 t ht
    · show max x.depth (PyData.depthAll r) ≤ k
      exact Nat.max_le.mpr ⟨hx.dp, h5⟩
    · show x.weight + 1 + PyData.weightAll r ≤ (r.length + 1) * (n + 1)
      have := hx.w
      rw [Nat.succ_mul]
      omega
theorem Fine.list {k n L : Nat} {xs : List D} (h : ∀ x ∈ xs, Fine k n x) (hl : xs.length ≤ L) : Fine (k + 1) (L * (n + 1)) (.list xs) := by
  obtain ⟨h1, h2, h3, h4, h5, h6⟩ := fine_all xs h
  refine ⟨h1, h2, h3, ?_, Nat.succ_le_succ h5, Nat.le_trans h6 (Nat.mul_le_mul_right _ hl)⟩
  rw [PyData.shown_list]
  exact okT_app (okT_app (by unfold okT; decide +kernel) (okT_join _ h4)) (by unfold okT; decide +kernel)
theorem Fine.tuple {k n L : Nat} {xs : List D} (h : ∀ x ∈ xs, Fine k n x) (hl : xs.length ≤ L) : Fine (k + 1) (L * (n + 1)) (.tuple xs) := by
  obtain ⟨h1, h2, h3, h4, h5, h6⟩ := fine_all xs h
  refine ⟨h1, h2, h3, ?_, Nat.succ_le_succ h5, Nat.le_trans h6 (Nat.mul_le_mul_right _ hl)⟩
  rw [PyData.shown_tuple]
  refine okT_app (okT_app (by unfold okT; decide +kernel) (okT_join _ h4)) ?_
  split
  · unfold okT; decide +kernel
  · unfold okT; decide +kernel
theorem Fine.word {w : List Int} {L : Nat} (h : ∀ x ∈ w, -200 ≤ x ∧ x ≤ 1200) (hl : w.length ≤ L) : Fine 1 (L * 21) (eT w) := by
  refine Fine.tuple (k := 0) (n := 20) (fun x hx => ?_) (by rw [List.length_map]; exact hl)
  obtain ⟨i, hi, rfl⟩ := List.mem_map.mp hx
  exact Fine.int (h i hi).1 (h i hi).2
/-- what the law's def that asks whether two things have one repr does, if they are the same -/
theorem repr_fine {d : D} (h : Fine 40 90000 d) : reprD [.list [d]] = some (.str (PyData.list [d]).shown) ∧ eqD (.str (PyData.list [d]).shown) (.str (PyData.list [d]).shown) = some (.bool true) := by
  have hn := Fine.list (k := 40) (n := 90000) (L := 1) (xs := [d]) (fun x hx => by obtain rfl := List.mem_singleton.mp hx; exact h) (Nat.le_refl _)
  have hw : (PyData.list [d]).shown.length ≤ sizeLine := Nat.le_trans (PyData.shown_le 100 (by decide) _ hn.l) (Nat.le_trans (Nat.add_le_add_right (Nat.mul_le_mul_left _ hn.w) _) (by decide))
  constructor
  · show (if _ then some (PyData.str (PyData.list [d]).shown) else Option.none) = _
    exact if_pos ⟨rfl, hn.s, hn.c, Nat.le_trans hn.dp (by decide), hw⟩
  · have hs : SeqAt.shaped (.str (PyData.list [d]).shown) = true := by
      show (PyData.strOk _ && decide (PyData.depth (.str _) ≤ 64)) = true
      rw [okT_strOk hn.t]
      rfl
    unfold eqD
    rw [if_pos ⟨hs, hs⟩]
    show some (PyData.bool ((PyData.list [d]).shown == (PyData.list [d]).shown)) = _
    simp
theorem fine_shaped {k n : Nat} {d : D} (h : Fine k n d) (hk : k ≤ 64) : SeqAt.shaped d = true := by
  show (d.canLay0 && decide (d.depth ≤ 64)) = true
  rw [h.c, decide_eq_true (Nat.le_trans h.dp hk)]
  rfl
theorem f_told : Fine 0 20 (.str "told") := fine_of (by decide +kernel)
theorem f_tell {k n : Nat} {v : D} (h : Fine k n v) (hn : 20 ≤ n) : Fine (k + 1) (2 * (n + 1)) (tellD v) := Fine.tuple (fun x hx => by
  rcases List.mem_cons.mp hx with rfl | hx
  · exact f_told.mono (Nat.zero_le _) hn
  · obtain rfl := List.mem_singleton.mp hx
    exact h) (Nat.le_refl _)
theorem same_fine (ns : List Int) (d : D) (ct : Int) (h : Fine 40 90000 d) : Tells hSame ns [.dat d, .dat d] ct (.bool true) ct := by
  obtain ⟨h1, h2⟩ := repr_fine h
  let S : Sg := ⟨[.dat d, .dat d], ct⟩
  refine tells_fn (g := S) rfl (ev_stop (ev_ret (ev_op2 (g1 := S) (g2 := S) (ev_opN (xs := [.list [d]]) (ev_cons (g1 := S) (ev_lst (ev_guard (ds := [d]) rfl (size_le 1 (by decide)))) rfl) h1) (ev_opN (xs := [.list [d]]) (ev_cons (g1 := S) (ev_lst (ev_guard (ds := [d]) rfl (size_le 1 (by decide)))) rfl) h1) h2)) (fun z => nomatch z))
end DL

set_option Elab.async false
set_option linter.all false
set_option maxRecDepth 100000
set_option maxHeartbeats 4000000
namespace K50
open PySem PySem.Spec L2 StX DL
open PyProof.Rows hiding St
def topS (i : Nat) : Stmt := PySem.Challenge.pw_namelessnets_k50_whole_messages_on_rings.main.body.getD i (.Pass ⟨0, 0, 0, 0⟩)
def nmE : Str → Option Str := fun n => if n = "NotAllowed" then some "refused" else if n = "TooLarge" then some "large" else if n = "Missing" then some "missing" else if n = "BadPaper" then some "paper" else none
def forBody : Stmt → List Stmt
  | .For _ _ b _ _ => b
  | _ => []
structure Txt (K : PySem.W.Frag) (mg : Str → Option Value) : Prop where
  n_abs : mg "abs" = none
  n_any : mg "any" = none
  n_enumerate : mg "enumerate" = none
  n_int : mg "int" = none
  n_isinstance : mg "isinstance" = none
  n_len : mg "len" = none
  n_list : mg "list" = none
  n_max : mg "max" = none
  n_min : mg "min" = none
  n_range : mg "range" = none
  n_repr : mg "repr" = none
  n_set : mg "set" = none
  n_sorted : mg "sorted" = none
  n_sum : mg "sum" = none
  n_tuple : mg "tuple" = none
  c_MAX_ALL : ∃ t, mg "MAX_ALL" = some (.int 7 t)
  c_MAX_RING : ∃ t, mg "MAX_RING" = some (.int 40 t)
  c_MAX_VALUE : ∃ t, mg "MAX_VALUE" = some (.int 1000000 t)
  x_NotAllowed : ExcD K mg "NotAllowed"
  x_TooLarge : ExcD K mg "TooLarge"
section
variable {P : Program} {w : World} {K : PySem.W.Frag} {mg : Str → Option Value} {base : Heap}
/-! check_numbers -/
abbrev s_check_numbers : Stmt := topS 11
abbrev N_check_numbers : List Str := ["numbers", "one"]
theorem sc_check_numbers : FnScope N_check_numbers ["numbers"] (defScope s_check_numbers) := ⟨rfl, rfl, rfl, by decide +kernel, rfl, by decide +kernel, by decide +kernel⟩
def m_check_numbers (ns : List Int) : M Fl :=
  (seqM (ifM (orM (asB (op2 gtD (opN lenD (consM (getM 0) (pureM []))) (pureM (.int 40)))) (asB (opN anyD (consM (lstM (lcM (srcM (getM 0)) (putM 1) yesM (op2 gtD (opN absD (consM (getM 1) (pureM []))) (pureM (.int 1000000))) [1])) (pureM [])))))
  (seqM (raiseM "TooLarge")
  nextM)
  nextM)
  (seqM (ifM (orM (asB (op2 eqD (opN lenD (consM (getM 0) (pureM []))) (pureM (.int 0)))) (asB (op2 ltD (lenKM (dkM (srcM (getM 0)) (putM 1) yesM (getM 1) (pureM (.bool true)) [1])) (opN lenD (consM (getM 0) (pureM []))))))
  (seqM (raiseM "NotAllowed")
  nextM)
  nextM)
  (seqM (retM (pureM .none))
  nextM)))
def h_check_numbers : FnM := fn 1 2 m_check_numbers
theorem cal_check_numbers (T : Txt K mg) (D : DefD K mg "check_numbers" s_check_numbers ["numbers"])  : CalD P w K mg base "check_numbers" 1 h_check_numbers := by
  have nd := sc_check_numbers.nd
  refine D.cal (k := 0) sc_check_numbers rfl fun f stc cdv A outer s H E hr hgu hu => ?_
  exact (sscons (sif (tw (wor (tcmp op_gt v2_gt (gcb call_len vn_len PySem.boot_len T.n_len (acons (gv 0) anil)) (gglobI T.c_MAX_RING)) (wor1 (tval (gcb (cr_any rfl) vn_any boot_any T.n_any (acons (gF (flc [("one", 1)] rfl nd (blkOk_by (N := N_check_numbers) (sc := defScope s_check_numbers) (by decide +kernel)) (ilist (gv 0)) (fun _ _ _ _ _ => (hname 1 nd)) (fun _ _ _ _ _ => tsnil) (fun _ _ _ _ _ => (gcmp op_gt v2_gt (gcb call_abs vn_abs boot_abs T.n_abs (acons (gv 1) anil)) (gglobI T.c_MAX_VALUE))))) anil))))))
  (sscons (sraise rfl (L2N.takes_of rfl rfl rfl rfl) T.x_TooLarge)
  ssnil)
  ssnil)
  (sscons (sif (tw (wor (tcmp (op_eqD (u64 hu)) v2_eq (gcb call_len vn_len PySem.boot_len T.n_len (acons (gv 0) anil)) gint) (wor1 (tcmp op_lt v2_lt (glenDc [("one", 1)] rfl nd (blkOk_by (N := N_check_numbers) (sc := defScope s_check_numbers) (by decide +kernel)) T.n_len (ilist (gv 0)) (fun _ _ _ _ _ => (hname 1 nd)) (fun _ _ _ _ _ => tsnil) (fun _ _ _ _ _ => (gv 1)) (fun _ _ _ _ _ => gbl)) (gcb call_len vn_len PySem.boot_len T.n_len (acons (gv 0) anil))))))
  (sscons (sraise rfl (L2N.takes_of rfl rfl rfl rfl) T.x_NotAllowed)
  ssnil)
  ssnil)
  (sscons (sret gnon)
  ssnil)))
/-! known_steps -/
abbrev s_known_steps : Stmt := topS 12
abbrev N_known_steps : List Str := ["numbers", "many", "found", "at", "one", "far"]
theorem sc_known_steps : FnScope N_known_steps ["numbers"] (defScope s_known_steps) := ⟨rfl, rfl, rfl, by decide +kernel, rfl, by decide +kernel, by decide +kernel⟩
def m_known_steps (ns : List Int) : M Fl :=
  (seqM (asgM (opN lenD (consM (getM 0) (pureM []))) (putM 1))
  (seqM (asgF (guardL (pureM [])) 2)
  (seqM (forS (srcA enumD (consM (getM 0) (pureM []))) (tupG 2 (gConsM (putM 3) (gConsM (putM 4) gNilM)))
  (seqM (asgM (pureM (.int 1)) (putM 5))
  (seqM (whileM 1000 (andM (asB (op2 ltD (getM 5) (getM 1))) (asB (op2 ltD (op2 ixD (getM 0) (op2 modD (op2 addD (getM 3) (getM 5)) (getM 1))) (getM 4))))
  (seqM (augM 5 (i2D (fun _ _ => true) fun i j => .int (i + j)) (pureM (.int 1)))
  nextM))
  (seqM (appM 2 (getM 5))
  nextM))))
  (seqM (retM (getM 2))
  nextM))))
def h_known_steps : FnM := fn 1 6 m_known_steps
theorem cal_known_steps (T : Txt K mg) (D : DefD K mg "known_steps" s_known_steps ["numbers"])  : CalD P w K mg base "known_steps" 1 h_known_steps := by
  have nd := sc_known_steps.nd
  refine D.cal (k := 0) sc_known_steps rfl fun f stc cdv A outer s H E hr hgu hu => ?_
  exact (sscons (sset 1 nd (gcb call_len vn_len PySem.boot_len T.n_len (acons (gv 0) anil)))
  (sscons (ssetF 2 nd (flst anil))
  (sscons (sfor (L2.passes_of rfl) rfl (ienum T.n_enumerate (acons (gv 0) anil)) (htup 2 rfl (hcons (hname 3 nd) (hcons (hname 4 nd) hnil)))
  (sscons (sset 5 nd gint)
  (sscons (swhile 1000 (L2.passes_of rfl) (tw (wand (tcmp op_lt v2_lt (gv 5) (gv 1)) (wand1 (tcmp op_lt v2_lt (gix (gv 0) (gmod (gadd (gv 3) (gv 5)) (gv 1))) (gv 4)))))
  (sscons (saug 5 nd ip_add v2_ipadd gint)
  ssnil))
  (sscons (sapp 2 (gv 5))
  ssnil))))
  (sscons (sret (gv 2))
  ssnil))))
/-! steps_on -/
abbrev s_steps_on : Stmt := topS 13
abbrev N_steps_on : List Str := ["numbers"]
theorem sc_steps_on : FnScope N_steps_on ["numbers"] (defScope s_steps_on) := ⟨rfl, rfl, rfl, by decide +kernel, rfl, by decide +kernel, by decide +kernel⟩
def m_steps_on (ns : List Int) : M Fl :=
  (seqM (dropM (callM h_check_numbers ns (datsM (consM (getM 0) (pureM [])))))
  (seqM (retM (opN tupleOfD (consM (callM h_known_steps ns (datsM (consM (getM 0) (pureM [])))) (pureM []))))
  nextM))
def h_steps_on : FnM := fn 1 1 m_steps_on
theorem cal_steps_on (T : Txt K mg) (D : DefD K mg "steps_on" s_steps_on ["numbers"]) (c_known_steps : CalD P w K mg base "known_steps" 1 h_known_steps) (c_check_numbers : CalD P w K mg base "check_numbers" 1 h_check_numbers) : CalD P w K mg base "steps_on" 2 h_steps_on := by
  have nd := sc_steps_on.nd
  refine D.cal (k := 1) sc_steps_on rfl fun f stc cdv A outer s H E hr hgu hu => ?_
  exact (sscons (sexpr (gcall c_check_numbers (hr.mono (by decide)) hgu (exB (L2N.takes_of rfl rfl rfl rfl)) (xdat (acons (gv 0) anil))))
  (sscons (sret (gct call_tuple_of vn_tupleOf PyProof.Rows.boot_tuple T.n_tuple (acons (gcall c_known_steps (hr.mono (by decide)) hgu (exB (L2N.takes_of rfl rfl rfl rfl)) (xdat (acons (gv 0) anil))) anil)))
  ssnil))
/-! messages -/
abbrev s_messages : Stmt := topS 14
abbrev N_messages : List Str := ["numbers"]
theorem sc_messages : FnScope N_messages ["numbers"] (defScope s_messages) := ⟨rfl, rfl, rfl, by decide +kernel, rfl, by decide +kernel, by decide +kernel⟩
def m_messages (ns : List Int) : M Fl :=
  (seqM (dropM (callM h_check_numbers ns (datsM (consM (getM 0) (pureM [])))))
  (seqM (retM (opN sumD (consM (callM h_known_steps ns (datsM (consM (getM 0) (pureM [])))) (pureM []))))
  nextM))
def h_messages : FnM := fn 1 1 m_messages
theorem cal_messages (T : Txt K mg) (D : DefD K mg "messages" s_messages ["numbers"]) (c_known_steps : CalD P w K mg base "known_steps" 1 h_known_steps) (c_check_numbers : CalD P w K mg base "check_numbers" 1 h_check_numbers) : CalD P w K mg base "messages" 2 h_messages := by
  have nd := sc_messages.nd
  refine D.cal (k := 1) sc_messages rfl fun f stc cdv A outer s H E hr hgu hu => ?_
  exact (sscons (sexpr (gcall c_check_numbers (hr.mono (by decide)) hgu (exB (L2N.takes_of rfl rfl rfl rfl)) (xdat (acons (gv 0) anil))))
  (sscons (sret (gcb (cr_sum rfl) vn_sum boot_sum T.n_sum (acons (gcall c_known_steps (hr.mono (by decide)) hgu (exB (L2N.takes_of rfl rfl rfl rfl)) (xdat (acons (gv 0) anil))) anil)))
  ssnil))
/-! rounds_to_know -/
abbrev s_rounds_to_know : Stmt := topS 15
abbrev N_rounds_to_know : List Str := ["numbers"]
theorem sc_rounds_to_know : FnScope N_rounds_to_know ["numbers"] (defScope s_rounds_to_know) := ⟨rfl, rfl, rfl, by decide +kernel, rfl, by decide +kernel, by decide +kernel⟩
def m_rounds_to_know (ns : List Int) : M Fl :=
  (seqM (dropM (callM h_check_numbers ns (datsM (consM (getM 0) (pureM [])))))
  (seqM (retM (opN maxD (consM (callM h_known_steps ns (datsM (consM (getM 0) (pureM [])))) (pureM []))))
  nextM))
def h_rounds_to_know : FnM := fn 1 1 m_rounds_to_know
theorem cal_rounds_to_know (T : Txt K mg) (D : DefD K mg "rounds_to_know" s_rounds_to_know ["numbers"]) (c_known_steps : CalD P w K mg base "known_steps" 1 h_known_steps) (c_check_numbers : CalD P w K mg base "check_numbers" 1 h_check_numbers) : CalD P w K mg base "rounds_to_know" 2 h_rounds_to_know := by
  have nd := sc_rounds_to_know.nd
  refine D.cal (k := 1) sc_rounds_to_know rfl fun f stc cdv A outer s H E hr hgu hu => ?_
  exact (sscons (sexpr (gcall c_check_numbers (hr.mono (by decide)) hgu (exB (L2N.takes_of rfl rfl rfl rfl)) (xdat (acons (gv 0) anil))))
  (sscons (sret (gcb (cr_max rfl) vn_max boot_max T.n_max (acons (gcall c_known_steps (hr.mono (by decide)) hgu (exB (L2N.takes_of rfl rfl rfl rfl)) (xdat (acons (gv 0) anil))) anil)))
  ssnil))
/-! check_many -/
abbrev s_check_many : Stmt := topS 16
abbrev N_check_many : List Str := ["many", "most"]
theorem sc_check_many : FnScope N_check_many ["many", "most"] (defScope s_check_many) := ⟨rfl, rfl, rfl, by decide +kernel, rfl, by decide +kernel, by decide +kernel⟩
def m_check_many (ns : List Int) : M Fl :=
  (seqM (ifM (asB (op2 gtD (getM 0) (getM 1)))
  (seqM (raiseM "TooLarge")
  nextM)
  nextM)
  (seqM (ifM (asB (op2 ltD (getM 0) (pureM (.int 1))))
  (seqM (raiseM "NotAllowed")
  nextM)
  nextM)
  (seqM (retM (pureM .none))
  nextM)))
def h_check_many : FnM := fn 2 2 m_check_many
theorem cal_check_many (T : Txt K mg) (D : DefD K mg "check_many" s_check_many ["many", "most"])  : CalD P w K mg base "check_many" 1 h_check_many := by
  have nd := sc_check_many.nd
  refine D.cal (k := 0) sc_check_many rfl fun f stc cdv A outer s H E hr hgu hu => ?_
  exact (sscons (sif (tcmp op_gt v2_gt (gv 0) (gv 1))
  (sscons (sraise rfl (L2N.takes_of rfl rfl rfl rfl) T.x_TooLarge)
  ssnil)
  ssnil)
  (sscons (sif (tcmp op_lt v2_lt (gv 0) gint)
  (sscons (sraise rfl (L2N.takes_of rfl rfl rfl rfl) T.x_NotAllowed)
  ssnil)
  ssnil)
  (sscons (sret gnon)
  ssnil)))
/-! most_messages -/
abbrev s_most_messages : Stmt := topS 17
abbrev N_most_messages : List Str := ["many"]
theorem sc_most_messages : FnScope N_most_messages ["many"] (defScope s_most_messages) := ⟨rfl, rfl, rfl, by decide +kernel, rfl, by decide +kernel, by decide +kernel⟩
def m_most_messages (ns : List Int) : M Fl :=
  (seqM (dropM (callM h_check_many ns (datsM (consM (getM 0) (consM (pureM (.int 40)) (pureM []))))))
  (seqM (retM (op2 fdivD (op2 mulXD (getM 0) (op2 addD (getM 0) (pureM (.int 1)))) (pureM (.int 2))))
  nextM))
def h_most_messages : FnM := fn 1 1 m_most_messages
theorem cal_most_messages (T : Txt K mg) (D : DefD K mg "most_messages" s_most_messages ["many"]) (c_check_many : CalD P w K mg base "check_many" 1 h_check_many) : CalD P w K mg base "most_messages" 2 h_most_messages := by
  have nd := sc_most_messages.nd
  refine D.cal (k := 1) sc_most_messages rfl fun f stc cdv A outer s H E hr hgu hu => ?_
  exact (sscons (sexpr (gcall c_check_many (hr.mono (by decide)) hgu (exB (L2N.takes_of rfl rfl rfl rfl)) (xdat (acons (gv 0) (acons (gglobI T.c_MAX_RING) anil)))))
  (sscons (sret (gfdiv (gmul (gv 0) (gadd (gv 0) gint)) gint))
  ssnil))
/-! fewest_messages -/
abbrev s_fewest_messages : Stmt := topS 18
abbrev N_fewest_messages : List Str := ["many"]
theorem sc_fewest_messages : FnScope N_fewest_messages ["many"] (defScope s_fewest_messages) := ⟨rfl, rfl, rfl, by decide +kernel, rfl, by decide +kernel, by decide +kernel⟩
def m_fewest_messages (ns : List Int) : M Fl :=
  (seqM (dropM (callM h_check_many ns (datsM (consM (getM 0) (consM (pureM (.int 40)) (pureM []))))))
  (seqM (retM (op2 subD (op2 mulXD (pureM (.int 2)) (getM 0)) (pureM (.int 1))))
  nextM))
def h_fewest_messages : FnM := fn 1 1 m_fewest_messages
theorem cal_fewest_messages (T : Txt K mg) (D : DefD K mg "fewest_messages" s_fewest_messages ["many"]) (c_check_many : CalD P w K mg base "check_many" 1 h_check_many) : CalD P w K mg base "fewest_messages" 2 h_fewest_messages := by
  have nd := sc_fewest_messages.nd
  refine D.cal (k := 1) sc_fewest_messages rfl fun f stc cdv A outer s H E hr hgu hu => ?_
  exact (sscons (sexpr (gcall c_check_many (hr.mono (by decide)) hgu (exB (L2N.takes_of rfl rfl rfl rfl)) (xdat (acons (gv 0) (acons (gglobI T.c_MAX_RING) anil)))))
  (sscons (sret (gsub (gmul gint (gv 0)) gint))
  ssnil))
/-! lowest -/
abbrev s_lowest : Stmt := topS 20
abbrev N_lowest : List Str := ["number", "part", "first", "second"]
theorem sc_lowest : FnScope N_lowest ["number", "part"] (defScope s_lowest) := ⟨rfl, rfl, rfl, by decide +kernel, rfl, by decide +kernel, by decide +kernel⟩
def m_lowest (ns : List Int) : M Fl :=
  (seqM (parM 2 3 (consM (getM 0) (consM (getM 1) (pureM []))))
  (seqM (whileM 1000 (asB (op2 gtD (getM 3) (pureM (.int 0))))
  (seqM (parM 2 3 (consM (getM 3) (consM (op2 modD (getM 2) (getM 3)) (pureM []))))
  nextM))
  (seqM (retM (tupM (consM (op2 fdivWD (getM 0) (getM 2)) (consM (op2 fdivWD (getM 1) (getM 2)) (pureM [])))))
  nextM)))
def h_lowest : FnM := fn 2 4 m_lowest
theorem cal_lowest (T : Txt K mg) (D : DefD K mg "lowest" s_lowest ["number", "part"])  : CalD P w K mg base "lowest" 1 h_lowest := by
  have nd := sc_lowest.nd
  refine D.cal (k := 0) sc_lowest rfl fun f stc cdv A outer s H E hr hgu hu => ?_
  exact (sscons (spar 2 3 rfl nd (acons (gv 0) (acons (gv 1) anil)))
  (sscons (swhile 1000 (L2.passes_of rfl) (tcmp op_gt v2_gt (gv 3) gint)
  (sscons (spar 2 3 rfl nd (acons (gv 3) (acons (gmod (gv 2) (gv 3)) anil)))
  ssnil))
  (sscons (sret (gtup (acons (gfdivW (gv 0) (gv 2)) (acons (gfdivW (gv 1) (gv 2)) anil))))
  ssnil)))
/-! mean_messages -/
abbrev s_mean_messages : Stmt := topS 19
abbrev N_mean_messages : List Str := ["many", "number", "part", "one"]
theorem sc_mean_messages : FnScope N_mean_messages ["many"] (defScope s_mean_messages) := ⟨rfl, rfl, rfl, by decide +kernel, rfl, by decide +kernel, by decide +kernel⟩
def m_mean_messages (ns : List Int) : M Fl :=
  (seqM (dropM (callM h_check_many ns (datsM (consM (getM 0) (consM (pureM (.int 40)) (pureM []))))))
  (seqM (asgM (tupM (consM (pureM (.int 0)) (consM (pureM (.int 1)) (pureM [])))) (tupG 2 (gConsM (putM 1) (gConsM (putM 2) gNilM))))
  (seqM (forS (srcA rng2 (consM (pureM (.int 1)) (consM (op2 addD (getM 0) (pureM (.int 1))) (pureM [])))) (putM 3)
  (seqM (parM 1 2 (consM (op2 addD (op2 mulXD (getM 1) (getM 3)) (getM 2)) (consM (op2 mulXD (getM 2) (getM 3)) (pureM []))))
  nextM))
  (seqM (retM (callM h_lowest ns (datsM (consM (op2 mulXD (getM 1) (getM 0)) (consM (getM 2) (pureM []))))))
  nextM))))
def h_mean_messages : FnM := fn 1 4 m_mean_messages
theorem cal_mean_messages (T : Txt K mg) (D : DefD K mg "mean_messages" s_mean_messages ["many"]) (c_lowest : CalD P w K mg base "lowest" 1 h_lowest) (c_check_many : CalD P w K mg base "check_many" 1 h_check_many) : CalD P w K mg base "mean_messages" 2 h_mean_messages := by
  have nd := sc_mean_messages.nd
  refine D.cal (k := 1) sc_mean_messages rfl fun f stc cdv A outer s H E hr hgu hu => ?_
  exact (sscons (sexpr (gcall c_check_many (hr.mono (by decide)) hgu (exB (L2N.takes_of rfl rfl rfl rfl)) (xdat (acons (gv 0) (acons (gglobI T.c_MAX_RING) anil)))))
  (sscons (sasg (gtup (acons gint (acons gint anil))) (htup 2 rfl (hcons (hname 1 nd) (hcons (hname 2 nd) hnil))))
  (sscons (sfor (L2.passes_of rfl) rfl (irng2 T.n_range (acons gint (acons (gadd (gv 0) gint) anil))) (hname 3 nd)
  (sscons (spar 1 2 rfl nd (acons (gadd (gmul (gv 1) (gv 3)) (gv 2)) (acons (gmul (gv 2) (gv 3)) anil)))
  ssnil))
  (sscons (sret (gcall c_lowest (hr.mono (by decide)) hgu (exB (L2N.takes_of rfl rfl rfl rfl)) (xdat (acons (gmul (gv 1) (gv 0)) (acons (gv 2) anil)))))
  ssnil))))
/-! all_orders -/
abbrev s_all_orders : Stmt := topS 21
abbrev N_all_orders : List Str := ["many", "found", "_", "row", "one"]
theorem sc_all_orders : FnScope N_all_orders ["many"] (defScope s_all_orders) := ⟨rfl, rfl, rfl, by decide +kernel, rfl, by decide +kernel, by decide +kernel⟩
def m_all_orders (ns : List Int) : M Fl :=
  (seqM (asgM (lstM (guardL (consM (tupM (consM (op2 subD (getM 0) (pureM (.int 1))) (pureM []))) (pureM [])))) (putM 1))
  (seqM (forS (srcA rng1 (consM (op2 subD (getM 0) (pureM (.int 1))) (pureM []))) (putM 2)
  (seqM (asgM (lstM (lc2M (srcM (getM 1)) (putM 3) yesM (srcA rng1 (consM (getM 0) (pureM []))) (putM 4) (asB (op2 (inD true) (getM 4) (getM 3))) (tupM (starM (getM 3) (consM (getM 4) (pureM [])))) [3, 4] [4])) (putM 1))
  nextM))
  (seqM (retM (getM 1))
  nextM)))
def h_all_orders : FnM := fn 1 5 m_all_orders
theorem cal_all_orders (T : Txt K mg) (D : DefD K mg "all_orders" s_all_orders ["many"])  : CalD P w K mg base "all_orders" 1 h_all_orders := by
  have nd := sc_all_orders.nd
  refine D.cal (k := 0) sc_all_orders rfl fun f stc cdv A outer s H E hr hgu hu => ?_
  exact (sscons (sset 1 nd (glst (acons (gtup (acons (gsub (gv 0) gint) anil)) anil)))
  (sscons (sfor (L2.passes_of rfl) rfl (irng1 T.n_range (acons (gsub (gv 0) gint) anil)) (hname 2 nd)
  (sscons (slc2 1 [("row", 3), ("one", 4)] [4] .dat rfl nd (blkOk_by (N := N_all_orders) (sc := defScope s_all_orders) (by decide +kernel)) (sw_true rfl rfl rfl (by decide +kernel)) (ilist (gv 1)) (fun _ _ _ _ _ => (hname 3 nd)) (fun _ _ _ _ _ => tsnil) (fun _ _ _ _ _ => (irng1 T.n_range (acons (gv 0) anil))) (fun _ _ _ _ _ => (hname 4 nd)) (fun _ _ _ _ _ => (tsone (tcmp (op_notInX hu) v2_in (gv 4) (gv 3)))) (fun _ _ _ _ _ => (gtup (astar (gv 3) (acons (gv 4) anil)))))
  ssnil))
  (sscons (sret (gv 1))
  ssnil)))
/-! orders_with -/
abbrev s_orders_with : Stmt := topS 22
abbrev N_orders_with : List Str := ["many", "count", "row"]
theorem sc_orders_with : FnScope N_orders_with ["many", "count"] (defScope s_orders_with) := ⟨rfl, rfl, rfl, by decide +kernel, rfl, by decide +kernel, by decide +kernel⟩
def m_orders_with (ns : List Int) : M Fl :=
  (seqM (dropM (callM h_check_many ns (datsM (consM (getM 0) (consM (pureM (.int 7)) (pureM []))))))
  (seqM (retM (opN lenD (consM (lstM (lcM (srcM (callM h_all_orders ns (datsM (consM (getM 0) (pureM []))))) (putM 2) (asB (op2 eqD (opN sumD (consM (callM h_known_steps ns (datsM (consM (getM 2) (pureM [])))) (pureM []))) (getM 1))) (getM 2) [2])) (pureM []))))
  nextM))
def h_orders_with : FnM := fn 2 3 m_orders_with
theorem cal_orders_with (T : Txt K mg) (D : DefD K mg "orders_with" s_orders_with ["many", "count"]) (c_all_orders : CalD P w K mg base "all_orders" 1 h_all_orders) (c_known_steps : CalD P w K mg base "known_steps" 1 h_known_steps) (c_check_many : CalD P w K mg base "check_many" 1 h_check_many) : CalD P w K mg base "orders_with" 2 h_orders_with := by
  have nd := sc_orders_with.nd
  refine D.cal (k := 1) sc_orders_with rfl fun f stc cdv A outer s H E hr hgu hu => ?_
  exact (sscons (sexpr (gcall c_check_many (hr.mono (by decide)) hgu (exB (L2N.takes_of rfl rfl rfl rfl)) (xdat (acons (gv 0) (acons (gglobI T.c_MAX_ALL) anil)))))
  (sscons (sret (gcb call_len vn_len PySem.boot_len T.n_len (acons (gF (flc [("row", 2)] rfl nd (blkOk_by (N := N_orders_with) (sc := defScope s_orders_with) (by decide +kernel)) (ilist (gcall c_all_orders (hr.mono (by decide)) hgu (exB (L2N.takes_of rfl rfl rfl rfl)) (xdat (acons (gv 0) anil)))) (fun _ _ _ _ _ => (hname 2 nd)) (fun _ _ _ _ _ => (tsone (tcmp (op_eqD (u64 hu)) v2_eq (gcb (cr_sum rfl) vn_sum boot_sum T.n_sum (acons (gcall c_known_steps (hr.mono (by decide)) hgu exq (xdat (acons (gv 2) anil))) anil)) (gv 1)))) (fun _ _ _ _ _ => (gv 2)))) anil)))
  ssnil))
/-! spread_of -/
abbrev s_spread_of : Stmt := topS 23
abbrev N_spread_of : List Str := ["many", "counts", "row", "total"]
theorem sc_spread_of : FnScope N_spread_of ["many"] (defScope s_spread_of) := ⟨rfl, rfl, rfl, by decide +kernel, rfl, by decide +kernel, by decide +kernel⟩
def m_spread_of (ns : List Int) : M Fl :=
  (seqM (dropM (callM h_check_many ns (datsM (consM (getM 0) (consM (pureM (.int 7)) (pureM []))))))
  (seqM (asgK (pureM []) 1)
  (seqM (forS (srcM (callM h_all_orders ns (datsM (consM (getM 0) (pureM []))))) (putM 2)
  (seqM (asgM (opN sumD (consM (callM h_known_steps ns (datsM (consM (getM 2) (pureM [])))) (pureM []))) (putM 3))
  (seqM (dputM 1 (getM 3) (op2 addD (dget2V 1 (getM 3) (pureM (.int 0))) (pureM (.int 1))))
  nextM)))
  (seqM (retM (opN tupleOfD (consM (lstM (lcM (srcM (sortKV 1)) (putM 3) yesM (tupM (consM (getM 3) (consM (dgetV 1 (getM 3)) (pureM [])))) [3])) (pureM []))))
  nextM))))
def h_spread_of : FnM := fn 1 4 m_spread_of
theorem cal_spread_of (T : Txt K mg) (D : DefD K mg "spread_of" s_spread_of ["many"]) (c_all_orders : CalD P w K mg base "all_orders" 1 h_all_orders) (c_known_steps : CalD P w K mg base "known_steps" 1 h_known_steps) (c_check_many : CalD P w K mg base "check_many" 1 h_check_many) : CalD P w K mg base "spread_of" 2 h_spread_of := by
  have nd := sc_spread_of.nd
  refine D.cal (k := 1) sc_spread_of rfl fun f stc cdv A outer s H E hr hgu hu => ?_
  exact (sscons (sexpr (gcall c_check_many (hr.mono (by decide)) hgu (exB (L2N.takes_of rfl rfl rfl rfl)) (xdat (acons (gv 0) (acons (gglobI T.c_MAX_ALL) anil)))))
  (sscons (ssetK 1 nd)
  (sscons (sfor (L2.passes_of rfl) rfl (ilist (gcall c_all_orders (hr.mono (by decide)) hgu (exB (L2N.takes_of rfl rfl rfl rfl)) (xdat (acons (gv 0) anil)))) (hname 2 nd)
  (sscons (sset 3 nd (gcb (cr_sum rfl) vn_sum boot_sum T.n_sum (acons (gcall c_known_steps (hr.mono (by decide)) hgu (exB (L2N.takes_of rfl rfl rfl rfl)) (xdat (acons (gv 2) anil))) anil)))
  (sscons (sdput hu 1 (gv 3) (gadd (gget2V hu 1 (gv 3) gint ⟨rfl, rfl, rfl, rfl⟩) gint))
  ssnil)))
  (sscons (sret (gct call_tuple_of vn_tupleOf PyProof.Rows.boot_tuple T.n_tuple (acons (gF (flc [("total", 3)] rfl nd (blkOk_by (N := N_spread_of) (sc := defScope s_spread_of) (by decide +kernel)) (ilist (gsortK 1 rfl T.n_sorted)) (fun _ _ _ _ _ => (hname 3 nd)) (fun _ _ _ _ _ => tsnil) (fun _ _ _ _ _ => (gtup (acons (gv 3) (acons (gdgetV hu 1 (gv 3)) anil)))))) anil)))
  ssnil))))
/-! built -/
abbrev s_built : Stmt := topS 25
abbrev N_built : List Str := ["many", "count", "left", "free", "found", "extra", "size", "take"]
theorem sc_built : FnScope N_built ["many", "count"] (defScope s_built) := ⟨rfl, rfl, rfl, by decide +kernel, rfl, by decide +kernel, by decide +kernel⟩
def m_built (ns : List Int) : M Fl :=
  (seqM (parX 2 3 (op2 subD (getM 1) (op2 subD (op2 mulXD (pureM (.int 2)) (getM 0)) (pureM (.int 1)))) (lrgF (op2 subD (getM 0) (pureM (.int 1)))))
  (seqM (asgF (guardL (consM (op2 subD (getM 0) (pureM (.int 1))) (pureM []))) 4)
  (seqM (asgF (guardL (pureM [])) 5)
  (seqM (forS (srcA rng3 (consM (op2 subD (getM 0) (pureM (.int 1))) (consM (pureM (.int 0)) (consM (op1 negD (pureM (.int 1))) (pureM []))))) (putM 6)
  (seqM (asgM (opN min2D (consM (getM 2) (consM (op2 subD (getM 6) (pureM (.int 1))) (pureM [])))) (putM 7))
  (seqM (appM 5 (getM 7))
  (seqM (augM 2 (i2D (fun _ _ => true) fun i j => .int (i - j)) (getM 7))
  nextM))))
  (seqM (forS (srcM (getM 5)) (putM 7)
  (seqM (appM 4 (popM 3 (getM 7)))
  nextM))
  (seqM (retM (opN tupleOfD (consM (getM 4) (pureM []))))
  nextM))))))
def h_built : FnM := fn 2 8 m_built
theorem cal_built (T : Txt K mg) (D : DefD K mg "built" s_built ["many", "count"])  : CalD P w K mg base "built" 1 h_built := by
  have nd := sc_built.nd
  refine D.cal (k := 0) sc_built rfl fun f stc cdv A outer s H E hr hgu hu => ?_
  exact (sscons (sparX 2 3 rfl nd (gsub (gv 1) (gsub (gmul gint (gv 0)) gint)) (flrg rfl T.n_list T.n_range (gsub (gv 0) gint)))
  (sscons (ssetF 4 nd (flst (acons (gsub (gv 0) gint) anil)))
  (sscons (ssetF 5 nd (flst anil))
  (sscons (sfor (L2.passes_of rfl) rfl (irng3 T.n_range (acons (gsub (gv 0) gint) (acons gint (acons (gneg gint) anil)))) (hname 6 nd)
  (sscons (sset 7 nd (gcb (call_min2 rfl) vn_min2 boot_min T.n_min (acons (gv 2) (acons (gsub (gv 6) gint) anil))))
  (sscons (sapp 5 (gv 7))
  (sscons (saug 2 nd ip_sub v2_ipsub (gv 7))
  ssnil))))
  (sscons (sfor (L2.passes_of rfl) rfl (ilist (gv 5)) (hname 7 nd)
  (sscons (sapp 4 (gpop 3 (gv 7)))
  ssnil))
  (sscons (sret (gct call_tuple_of vn_tupleOf PyProof.Rows.boot_tuple T.n_tuple (acons (gv 4) anil)))
  ssnil))))))
/-! ring_with -/
abbrev s_ring_with : Stmt := topS 24
abbrev N_ring_with : List Str := ["many", "count"]
theorem sc_ring_with : FnScope N_ring_with ["many", "count"] (defScope s_ring_with) := ⟨rfl, rfl, rfl, by decide +kernel, rfl, by decide +kernel, by decide +kernel⟩
def m_ring_with (ns : List Int) : M Fl :=
  (seqM (dropM (callM h_check_many ns (datsM (consM (getM 0) (consM (pureM (.int 40)) (pureM []))))))
  (seqM (ifM (notM (asB (chainM leD leD (op2 subD (op2 mulXD (pureM (.int 2)) (getM 0)) (pureM (.int 1))) (getM 1) (op2 fdivD (op2 mulXD (getM 0) (op2 addD (getM 0) (pureM (.int 1)))) (pureM (.int 2))))))
  (seqM (raiseM "NotAllowed")
  nextM)
  nextM)
  (seqM (retM (callM h_built ns (datsM (consM (getM 0) (consM (getM 1) (pureM []))))))
  nextM)))
def h_ring_with : FnM := fn 2 2 m_ring_with
theorem cal_ring_with (T : Txt K mg) (D : DefD K mg "ring_with" s_ring_with ["many", "count"]) (c_built : CalD P w K mg base "built" 1 h_built) (c_check_many : CalD P w K mg base "check_many" 1 h_check_many) : CalD P w K mg base "ring_with" 2 h_ring_with := by
  have nd := sc_ring_with.nd
  refine D.cal (k := 1) sc_ring_with rfl fun f stc cdv A outer s H E hr hgu hu => ?_
  exact (sscons (sexpr (gcall c_check_many (hr.mono (by decide)) hgu (exB (L2N.takes_of rfl rfl rfl rfl)) (xdat (acons (gv 0) (acons (gglobI T.c_MAX_RING) anil)))))
  (sscons (sif (tnot (tchain op_le v2_le op_le v2_le (gsub (gmul gint (gv 0)) gint) (gv 1) (gfdiv (gmul (gv 0) (gadd (gv 0) gint)) gint)))
  (sscons (sraise rfl (L2N.takes_of rfl rfl rfl rfl) T.x_NotAllowed)
  ssnil)
  ssnil)
  (sscons (sret (gcall c_built (hr.mono (by decide)) hgu (exB (L2N.takes_of rfl rfl rfl rfl)) (xdat (acons (gv 0) (acons (gv 1) anil)))))
  ssnil)))
/-! known_rounds -/
abbrev s_known_rounds : Stmt := topS 26
abbrev N_known_rounds : List Str := ["numbers", "found", "row", "many", "at", "one"]
theorem sc_known_rounds : FnScope N_known_rounds ["numbers"] (defScope s_known_rounds) := ⟨rfl, rfl, rfl, by decide +kernel, rfl, by decide +kernel, by decide +kernel⟩
def m_known_rounds (ns : List Int) : M Fl :=
  (seqM (asgF (guardL (consM (opN tupleOfD (consM (getM 0) (pureM []))) (pureM []))) 1)
  (seqM (whileM 1000 (asB (op2 gtD (opN lenD (consM (ixV 1 (op1 negD (pureM (.int 1)))) (pureM []))) (pureM (.int 1))))
  (seqM (asgM (ixV 1 (op1 negD (pureM (.int 1)))) (putM 2))
  (seqM (asgM (opN lenD (consM (getM 2) (pureM []))) (putM 3))
  (seqM (appM 1 (opN tupleOfD (consM (lstM (lcM (srcA enumD (consM (getM 2) (pureM []))) (tupG 2 (gConsM (putM 4) (gConsM (putM 5) gNilM))) (andM (asB (op2 gtD (getM 5) (op2 ixD (getM 2) (op2 subD (getM 4) (pureM (.int 1)))))) (asB (op2 gtD (getM 5) (op2 ixD (getM 2) (op2 modD (op2 addD (getM 4) (pureM (.int 1))) (getM 3)))))) (getM 5) [4, 5])) (pureM []))))
  nextM))))
  (seqM (retM (getM 1))
  nextM)))
def h_known_rounds : FnM := fn 1 6 m_known_rounds
theorem cal_known_rounds (T : Txt K mg) (D : DefD K mg "known_rounds" s_known_rounds ["numbers"])  : CalD P w K mg base "known_rounds" 1 h_known_rounds := by
  have nd := sc_known_rounds.nd
  refine D.cal (k := 0) sc_known_rounds rfl fun f stc cdv A outer s H E hr hgu hu => ?_
  exact (sscons (ssetF 1 nd (flst (acons (gct call_tuple_of vn_tupleOf PyProof.Rows.boot_tuple T.n_tuple (acons (gv 0) anil)) anil)))
  (sscons (swhile 1000 (L2.passes_of rfl) (tcmp op_gt v2_gt (gcb call_len vn_len PySem.boot_len T.n_len (acons (gixV 1 (gneg gint)) anil)) gint)
  (sscons (sset 2 nd (gixV 1 (gneg gint)))
  (sscons (sset 3 nd (gcb call_len vn_len PySem.boot_len T.n_len (acons (gv 2) anil)))
  (sscons (sapp 1 (gct call_tuple_of vn_tupleOf PyProof.Rows.boot_tuple T.n_tuple (acons (gF (flc [("at", 4), ("one", 5)] rfl nd (blkOk_by (N := N_known_rounds) (sc := defScope s_known_rounds) (by decide +kernel)) (ienum T.n_enumerate (acons (gv 2) anil)) (fun _ _ _ _ _ => (htup 2 rfl (hcons (hname 4 nd) (hcons (hname 5 nd) hnil)))) (fun _ _ _ _ _ => (tsone (tw (wand (tcmp op_gt v2_gt (gv 5) (gix (gv 2) (gsub (gv 4) gint))) (wand1 (tcmp op_gt v2_gt (gv 5) (gix (gv 2) (gmod (gadd (gv 4) gint) (gv 3))))))))) (fun _ _ _ _ _ => (gv 5)))) anil)))
  ssnil))))
  (sscons (sret (gv 1))
  ssnil)))
/-! left_by_rounds -/
abbrev s_left_by_rounds : Stmt := topS 27
abbrev N_left_by_rounds : List Str := ["numbers"]
theorem sc_left_by_rounds : FnScope N_left_by_rounds ["numbers"] (defScope s_left_by_rounds) := ⟨rfl, rfl, rfl, by decide +kernel, rfl, by decide +kernel, by decide +kernel⟩
def m_left_by_rounds (ns : List Int) : M Fl :=
  (seqM (dropM (callM h_check_numbers ns (datsM (consM (getM 0) (pureM [])))))
  (seqM (retM (callM h_known_rounds ns (datsM (consM (getM 0) (pureM [])))))
  nextM))
def h_left_by_rounds : FnM := fn 1 1 m_left_by_rounds
theorem cal_left_by_rounds (T : Txt K mg) (D : DefD K mg "left_by_rounds" s_left_by_rounds ["numbers"]) (c_known_rounds : CalD P w K mg base "known_rounds" 1 h_known_rounds) (c_check_numbers : CalD P w K mg base "check_numbers" 1 h_check_numbers) : CalD P w K mg base "left_by_rounds" 2 h_left_by_rounds := by
  have nd := sc_left_by_rounds.nd
  refine D.cal (k := 1) sc_left_by_rounds rfl fun f stc cdv A outer s H E hr hgu hu => ?_
  exact (sscons (sexpr (gcall c_check_numbers (hr.mono (by decide)) hgu (exB (L2N.takes_of rfl rfl rfl rfl)) (xdat (acons (gv 0) anil))))
  (sscons (sret (gcall c_known_rounds (hr.mono (by decide)) hgu (exB (L2N.takes_of rfl rfl rfl rfl)) (xdat (acons (gv 0) anil))))
  ssnil))
/-! rounds_of_two -/
abbrev s_rounds_of_two : Stmt := topS 28
abbrev N_rounds_of_two : List Str := ["numbers"]
theorem sc_rounds_of_two : FnScope N_rounds_of_two ["numbers"] (defScope s_rounds_of_two) := ⟨rfl, rfl, rfl, by decide +kernel, rfl, by decide +kernel, by decide +kernel⟩
def m_rounds_of_two (ns : List Int) : M Fl :=
  (seqM (dropM (callM h_check_numbers ns (datsM (consM (getM 0) (pureM [])))))
  (seqM (retM (op2 subD (opN lenD (consM (callM h_known_rounds ns (datsM (consM (getM 0) (pureM [])))) (pureM []))) (pureM (.int 1))))
  nextM))
def h_rounds_of_two : FnM := fn 1 1 m_rounds_of_two
theorem cal_rounds_of_two (T : Txt K mg) (D : DefD K mg "rounds_of_two" s_rounds_of_two ["numbers"]) (c_known_rounds : CalD P w K mg base "known_rounds" 1 h_known_rounds) (c_check_numbers : CalD P w K mg base "check_numbers" 1 h_check_numbers) : CalD P w K mg base "rounds_of_two" 2 h_rounds_of_two := by
  have nd := sc_rounds_of_two.nd
  refine D.cal (k := 1) sc_rounds_of_two rfl fun f stc cdv A outer s H E hr hgu hu => ?_
  exact (sscons (sexpr (gcall c_check_numbers (hr.mono (by decide)) hgu (exB (L2N.takes_of rfl rfl rfl rfl)) (xdat (acons (gv 0) anil))))
  (sscons (sret (gsub (gcb call_len vn_len PySem.boot_len T.n_len (acons (gcall c_known_rounds (hr.mono (by decide)) hgu (exB (L2N.takes_of rfl rfl rfl rfl)) (xdat (acons (gv 0) anil))) anil)) gint))
  ssnil))
/-! most_rounds -/
abbrev s_most_rounds : Stmt := topS 29
abbrev N_most_rounds : List Str := ["many", "rounds"]
theorem sc_most_rounds : FnScope N_most_rounds ["many"] (defScope s_most_rounds) := ⟨rfl, rfl, rfl, by decide +kernel, rfl, by decide +kernel, by decide +kernel⟩
def m_most_rounds (ns : List Int) : M Fl :=
  (seqM (dropM (callM h_check_many ns (datsM (consM (getM 0) (consM (pureM (.int 40)) (pureM []))))))
  (seqM (asgM (pureM (.int 0)) (putM 1))
  (seqM (whileM 1000 (asB (op2 gtD (getM 0) (pureM (.int 1))))
  (seqM (parM 0 1 (consM (op2 fdivD (getM 0) (pureM (.int 2))) (consM (op2 addD (getM 1) (pureM (.int 1))) (pureM []))))
  nextM))
  (seqM (retM (getM 1))
  nextM))))
def h_most_rounds : FnM := fn 1 2 m_most_rounds
theorem cal_most_rounds (T : Txt K mg) (D : DefD K mg "most_rounds" s_most_rounds ["many"]) (c_check_many : CalD P w K mg base "check_many" 1 h_check_many) : CalD P w K mg base "most_rounds" 2 h_most_rounds := by
  have nd := sc_most_rounds.nd
  refine D.cal (k := 1) sc_most_rounds rfl fun f stc cdv A outer s H E hr hgu hu => ?_
  exact (sscons (sexpr (gcall c_check_many (hr.mono (by decide)) hgu (exB (L2N.takes_of rfl rfl rfl rfl)) (xdat (acons (gv 0) (acons (gglobI T.c_MAX_RING) anil)))))
  (sscons (sset 1 nd gint)
  (sscons (swhile 1000 (L2.passes_of rfl) (tcmp op_gt v2_gt (gv 0) gint)
  (sscons (spar 0 1 rfl nd (acons (gfdiv (gv 0) gint) (acons (gadd (gv 1) gint) anil)))
  ssnil))
  (sscons (sret (gv 1))
  ssnil))))
/-! stops_at -/
abbrev s_stops_at : Stmt := topS 30
abbrev N_stops_at : List Str := ["numbers", "at"]
theorem sc_stops_at : FnScope N_stops_at ["numbers", "at"] (defScope s_stops_at) := ⟨rfl, rfl, rfl, by decide +kernel, rfl, by decide +kernel, by decide +kernel⟩
def m_stops_at (ns : List Int) : M Fl :=
  (seqM (dropM (callM h_check_numbers ns (datsM (consM (getM 0) (pureM [])))))
  (seqM (ifM (notM (asB (chainM leD ltD (pureM (.int 0)) (getM 1) (opN lenD (consM (getM 0) (pureM []))))))
  (seqM (raiseM "NotAllowed")
  nextM)
  nextM)
  (seqM (retM (op2 modD (op2 addD (getM 1) (op2 ixD (callM h_known_steps ns (datsM (consM (getM 0) (pureM [])))) (getM 1))) (opN lenD (consM (getM 0) (pureM [])))))
  nextM)))
def h_stops_at : FnM := fn 2 2 m_stops_at
theorem cal_stops_at (T : Txt K mg) (D : DefD K mg "stops_at" s_stops_at ["numbers", "at"]) (c_known_steps : CalD P w K mg base "known_steps" 1 h_known_steps) (c_check_numbers : CalD P w K mg base "check_numbers" 1 h_check_numbers) : CalD P w K mg base "stops_at" 2 h_stops_at := by
  have nd := sc_stops_at.nd
  refine D.cal (k := 1) sc_stops_at rfl fun f stc cdv A outer s H E hr hgu hu => ?_
  exact (sscons (sexpr (gcall c_check_numbers (hr.mono (by decide)) hgu (exB (L2N.takes_of rfl rfl rfl rfl)) (xdat (acons (gv 0) anil))))
  (sscons (sif (tnot (tchain op_le v2_le op_lt v2_lt gint (gv 1) (gcb call_len vn_len PySem.boot_len T.n_len (acons (gv 0) anil))))
  (sscons (sraise rfl (L2N.takes_of rfl rfl rfl rfl) T.x_NotAllowed)
  ssnil)
  ssnil)
  (sscons (sret (gmod (gadd (gv 1) (gix (gcall c_known_steps (hr.mono (by decide)) hgu (exB (L2N.takes_of rfl rfl rfl rfl)) (xdat (acons (gv 0) anil))) (gv 1))) (gcb call_len vn_len PySem.boot_len T.n_len (acons (gv 0) anil))))
  ssnil)))
/-! _law_same -/
abbrev s_L_same : Stmt := topS 32
abbrev N_L_same : List Str := ["told", "due"]
theorem sc_L_same : FnScope N_L_same ["told", "due"] (defScope s_L_same) := ⟨rfl, rfl, rfl, by decide +kernel, rfl, by decide +kernel, by decide +kernel⟩
def m_L_same (ns : List Int) : M Fl :=
  (seqM (retM (op2 eqD (opN reprD (consM (lstM (guardL (consM (getM 0) (pureM [])))) (pureM []))) (opN reprD (consM (lstM (guardL (consM (getM 1) (pureM [])))) (pureM [])))))
  nextM)
def h_L_same : FnM := fn 2 2 m_L_same
theorem cal_L_same (T : Txt K mg) (D : DefD K mg "_law_same" s_L_same ["told", "due"])  : CalD P w K mg base "_law_same" 1 h_L_same := by
  have nd := sc_L_same.nd
  refine D.cal (k := 0) sc_L_same rfl fun f stc cdv A outer s H E hr hgu hu => ?_
  exact (sscons (sret (gcmp (op_eqD (u64 hu)) v2_eq (gcb (call_repr hgu (u64 hu)) vn_repr boot_repr T.n_repr (acons (glst (acons (gv 0) anil)) anil)) (gcb (call_repr hgu (u64 hu)) vn_repr boot_repr T.n_repr (acons (glst (acons (gv 1) anil)) anil))))
  ssnil)
/-! _law_error -/
abbrev s_L_error : Stmt := topS 33
abbrev N_L_error : List Str := ["e", "kinds", "names", "k"]
theorem sc_L_error : FnScope N_L_error ["e"] (defScope s_L_error) := ⟨rfl, rfl, rfl, by decide +kernel, rfl, by decide +kernel, by decide +kernel⟩
theorem fnE_L (T : Txt K mg) {f : Addr} {fd : FuncData} {cl c1 c2 c3 c4 c5 : Addr} {z : Str} {b1 b2 b3 b4 b5 : Bool} (F : Fun K "_law_error" "_law_error" s_L_error f fd) (ht : ∀ a ct, tells (errM a b1 b2 b3 b4 b5 ⟨[.raw (.ref a), .no, .no, .no], ct⟩) z) (EC : ExcC K cl)
    (k1 : PySem.W.kitOne K (.ref cl) (.ref c1) = some b1) (k2 : PySem.W.kitOne K (.ref cl) (.ref c2) = some b2) (k3 : PySem.W.kitOne K (.ref cl) (.ref c3) = some b3) (k4 : PySem.W.kitOne K (.ref cl) (.ref c4) = some b4) (k5 : PySem.W.kitOne K (.ref cl) (.ref c5) = some b5)
    (g1 : mg "NotAllowed" = some (.ref c1)) (g2 : mg "TooLarge" = some (.ref c2)) (g3 : mg "Missing" = some (.ref c3)) (g4 : mg "BadPaper" = some (.ref c4)) (g5 : mg "BadForm" = some (.ref c5)) : FnE P w K mg base 2 f fd cl z := by
  have nd := sc_L_error.nd
  refine fnE_err (k := 1) F sc_L_error rfl ht fun cdv A outer s H a oe hot hu hz hf => ?_
  exact (sscons (sset 1 nd (gF (flst (acons (gisE (List.mem_singleton.mpr rfl) EC hz hf k1 T.n_isinstance g1) (acons (gisE (List.mem_singleton.mpr rfl) EC hz hf k2 T.n_isinstance g2) (acons (gisE (List.mem_singleton.mpr rfl) EC hz hf k3 T.n_isinstance g3) (acons (gisE (List.mem_singleton.mpr rfl) EC hz hf k4 T.n_isinstance g4) (acons (gisE (List.mem_singleton.mpr rfl) EC hz hf k5 T.n_isinstance g5) anil))))))))
  (sscons (slcH 2 [("k", 3)] .dat hot nd (blkOk_by (N := N_L_error) (sc := defScope s_L_error) (by decide +kernel)) (sw_true rfl rfl rfl (by decide +kernel)) T.n_range (acons gint anil) (fun _ _ _ _ _ => (hname 3 nd)) (fun _ _ _ _ _ => (tsone (tval (gix (gv 1) (gv 3))))) (fun _ _ _ _ _ => (gix (glst (acons gstr (acons gstr (acons gstr (acons gstr (acons gstr anil)))))) (gv 3))))
  (sscons (sret (gix (glst (acons gstr (acons (gix (gadd (gv 2) (glst (acons gstr anil))) gint) anil))) (gct call_int1 vn_int PyProof.Rows.boot_int T.n_int (acons (gcmp (op_eqD (u64 hu)) v2_eq (gcb call_len vn_len PySem.boot_len T.n_len (acons (gv 2) anil)) gint) anil))))
  ssnil)))
/-- the classes of the errors -/
structure ErrF (K : PySem.W.Frag) (mg : Str → Option Value) : Prop where
  ex : ∃ (f : Addr) (fd : FuncData) (eN c1 c2 c3 c4 c5 : Addr), Fun K "_law_error" "_law_error" s_L_error f fd ∧ mg "_law_error" = some (.ref f) ∧ PySem.W.keepIn K (.ref f) = true ∧ Binds K fd ["e"] [] ∧ mg "NetError" = some (.ref eN) ∧
    (mg "NotAllowed" = some (.ref c1) ∧ mg "TooLarge" = some (.ref c2) ∧ mg "Missing" = some (.ref c3) ∧ mg "BadPaper" = some (.ref c4) ∧ mg "BadForm" = some (.ref c5)) ∧
    (ExcC K c1 ∧ PySem.W.exmOne K (.ref c1) (.ref eN) = some true ∧ PySem.W.kitOne K (.ref c1) (.ref c1) = some true ∧ PySem.W.kitOne K (.ref c1) (.ref c2) = some false ∧ PySem.W.kitOne K (.ref c1) (.ref c3) = some false ∧ PySem.W.kitOne K (.ref c1) (.ref c4) = some false ∧ PySem.W.kitOne K (.ref c1) (.ref c5) = some false) ∧
    (ExcC K c2 ∧ PySem.W.exmOne K (.ref c2) (.ref eN) = some true ∧ PySem.W.kitOne K (.ref c2) (.ref c1) = some false ∧ PySem.W.kitOne K (.ref c2) (.ref c2) = some true ∧ PySem.W.kitOne K (.ref c2) (.ref c3) = some false ∧ PySem.W.kitOne K (.ref c2) (.ref c4) = some false ∧ PySem.W.kitOne K (.ref c2) (.ref c5) = some false) ∧
    (ExcC K c3 ∧ PySem.W.exmOne K (.ref c3) (.ref eN) = some true ∧ PySem.W.kitOne K (.ref c3) (.ref c1) = some false ∧ PySem.W.kitOne K (.ref c3) (.ref c2) = some false ∧ PySem.W.kitOne K (.ref c3) (.ref c3) = some true ∧ PySem.W.kitOne K (.ref c3) (.ref c4) = some false ∧ PySem.W.kitOne K (.ref c3) (.ref c5) = some false) ∧
    (ExcC K c4 ∧ PySem.W.exmOne K (.ref c4) (.ref eN) = some true ∧ PySem.W.kitOne K (.ref c4) (.ref c1) = some false ∧ PySem.W.kitOne K (.ref c4) (.ref c2) = some false ∧ PySem.W.kitOne K (.ref c4) (.ref c3) = some false ∧ PySem.W.kitOne K (.ref c4) (.ref c4) = some true ∧ PySem.W.kitOne K (.ref c4) (.ref c5) = some false)
theorem c_err_ok (T : Txt K mg) (EF : ErrF K mg) : ErrD P w K mg base 2 nmE := by
  obtain ⟨f, fd, eN, c1, c2, c3, c4, c5, F, gf, kf, bf, gN, ⟨g1, g2, g3, g4, g5⟩, ⟨E1, x1, k11, k12, k13, k14, k15⟩, ⟨E2, x2, k21, k22, k23, k24, k25⟩, ⟨E3, x3, k31, k32, k33, k34, k35⟩, ⟨E4, x4, k41, k42, k43, k44, k45⟩⟩ := EF.ex
  refine ⟨f, fd, eN, gN, gf, kf, bf, fun n z cl hz hc => ?_⟩
  unfold nmE at hz
  split at hz
  · rename_i e; subst e; cases hz
    rw [g1] at hc; cases hc
    exact ⟨x1, fnE_L T F (errM_1) E1 k11 k12 k13 k14 k15 g1 g2 g3 g4 g5⟩
  split at hz
  · rename_i e; subst e; cases hz
    rw [g2] at hc; cases hc
    exact ⟨x2, fnE_L T F (errM_2) E2 k21 k22 k23 k24 k25 g1 g2 g3 g4 g5⟩
  split at hz
  · rename_i e; subst e; cases hz
    rw [g3] at hc; cases hc
    exact ⟨x3, fnE_L T F (errM_3) E3 k31 k32 k33 k34 k35 g1 g2 g3 g4 g5⟩
  split at hz
  · rename_i e; subst e; cases hz
    rw [g4] at hc; cases hc
    exact ⟨x4, fnE_L T F (errM_4) E4 k41 k42 k43 k44 k45 g1 g2 g3 g4 g5⟩
  cases hz
/-! _law_stream -/
abbrev s_L_stream : Stmt := topS 34
abbrev N_L_stream : List Str := ["script", "numbers", "cell", "rest", "k", "stirred"]
theorem sc_L_stream : FnScope N_L_stream ["script"] (defScope s_L_stream) := ⟨rfl, rfl, rfl, by decide +kernel, rfl, by decide +kernel, by decide +kernel⟩
def m_cell : M Fl :=
  (seqM (asgM (opN absD (consM (opN intD (consM (getM 2) (pureM []))) (pureM []))) (putM 3))
  (seqM (ifM (asB (op2 geD (getM 3) (op2 powD (pureM (.int 10)) (pureM (.int 18)))))
  (seqM (forS (srcA rng1 (consM (pureM (.int 60)) (pureM []))) (putM 4)
  (seqM (appM 1 (op2 modD (opN intD (consM (getM 3) (pureM []))) (pureM (.int 1009))))
  (seqM (asgM (op2 fdivD (getM 3) (pureM (.int 1009))) (putM 3))
  (seqM (ifM (asB (op2 eqD (getM 3) (pureM (.int 0))))
  (seqM (pureM .brk)
  nextM)
  nextM)
  nextM))))
  nextM)
  (seqM (asgM (op2 modD (opN intD (consM (getM 3) (pureM []))) (pureM (.int 2147483647))) (putM 5))
  (seqM (forS (srcA rng1 (consM (pureM (.int 10)) (pureM []))) (putM 4)
  (seqM (asgM (op2 modD (opN intD (consM (op2 addD (op2 addD (op2 mulXD (getM 5) (pureM (.int 48271))) (op2 mulXD (pureM (.int 7)) (getM 4))) (pureM (.int 11))) (pureM []))) (pureM (.int 2147483647))) (putM 5))
  (seqM (appM 1 (op2 modD (op2 modD (opN intD (consM (op2 addD (op2 mulXD (getM 5) (pureM (.int 69621))) (getM 4)) (pureM []))) (pureM (.int 2147483629))) (pureM (.int 1009))))
  nextM)))
  nextM)))
  nextM))
def m_srest : M Fl :=
  (seqM (ifM (asB (op2 eqD (lenV 1) (pureM (.int 0))))
  (seqM (appM 1 (pureM (.int 0)))
  nextM)
  nextM)
  (seqM (retM (getM 1))
  nextM))
theorem cal_L_stream (T : Txt K mg) (D : DefD K mg "_law_stream" s_L_stream ["script"]) (ok : StreamOk m_cell m_srest) : StrD P w K mg base 1 := by
  have nd := sc_L_stream.nd
  refine stream_ok (k := 0) D sc_L_stream rfl ok fun f cdv A outer s H E hr hgu hu C hC => ?_
  have pc : DSs (cx (cxOf (L2N.CX P w) P w K mg base N_L_stream "_law_stream" (defScope s_L_stream) f cdv A outer s H E) none fun _ => E) (cxOf (L2N.CX P w) P w K mg base N_L_stream "_law_stream" (defScope s_L_stream) f cdv A outer s H E) (forBody ((defBody s_L_stream).getD 1 (.Pass ⟨0, 0, 0, 0⟩))) m_cell :=
    (sscons (sset 3 nd (gcb call_abs vn_abs boot_abs T.n_abs (acons (gct call_int1 vn_int PyProof.Rows.boot_int T.n_int (acons (gv 2) anil)) anil)))
  (sscons (sif (tcmp op_ge v2_ge (gv 3) (gpow gint gint))
  (sscons (sfor (L2.passes_of rfl) rfl (irng1 T.n_range (acons gint anil)) (hname 4 nd)
  (sscons (sapp 1 (gmod (gct call_int1 vn_int PyProof.Rows.boot_int T.n_int (acons (gv 3) anil)) gint))
  (sscons (sset 3 nd (gfdiv (gv 3) gint))
  (sscons (sif (tcmp (op_eqD (u64 hu)) v2_eq (gv 3) gint)
  (sscons sbrk
  ssnil)
  ssnil)
  ssnil))))
  ssnil)
  (sscons (sset 5 nd (gmod (gct call_int1 vn_int PyProof.Rows.boot_int T.n_int (acons (gv 3) anil)) gint))
  (sscons (sfor (L2.passes_of rfl) rfl (irng1 T.n_range (acons gint anil)) (hname 4 nd)
  (sscons (sset 5 nd (gmod (gct call_int1 vn_int PyProof.Rows.boot_int T.n_int (acons (gadd (gadd (gmul (gv 5) gint) (gmul gint (gv 4))) gint) anil)) gint))
  (sscons (sapp 1 (gmod (gmod (gct call_int1 vn_int PyProof.Rows.boot_int T.n_int (acons (gadd (gmul (gv 5) gint) (gv 4)) anil)) gint) gint))
  ssnil)))
  ssnil)))
  ssnil))
  have pr : DSs (cx (cxOf (L2N.CX P w) P w K mg base N_L_stream "_law_stream" (defScope s_L_stream) f cdv A outer s H E) none fun _ => E) (cxOf (L2N.CX P w) P w K mg base N_L_stream "_law_stream" (defScope s_L_stream) f cdv A outer s H E) ((defBody s_L_stream).drop 2) m_srest :=
    (sscons (sif (tcmp (op_eqD (u64 hu)) v2_eq (glenV 1 T.n_len) gint)
  (sscons (sapp 1 gint)
  ssnil)
  ssnil)
  (sscons (sret (gv 1))
  ssnil))
  subst hC
  exact pss_cons (ps_set (i := 1) nd rfl (Or.inl rfl) (pe_lst pa_nil)) (pss_cons (ps_for (L2.passes_of rfl) rfl (pi_any (pe_slice sl_list (pv 0) po_none (po_some pe_int))) (pg_name (i := 2) nd rfl (Or.inl rfl)) pc) pr)
/-! _law_next -/
abbrev s_L_next : Stmt := topS 35
abbrev N_L_next : List Str := ["state", "many", "turn"]
theorem sc_L_next : FnScope N_L_next ["state", "many"] (defScope s_L_next) := ⟨rfl, rfl, rfl, by decide +kernel, rfl, by decide +kernel, by decide +kernel⟩
def m_L_next (ns : List Int) : M Fl :=
  (seqM (stSet 0 (op2 addD (st1M 0) (pureM (.int 1))))
  (seqM (asgM (op2 fdivD (st1M 0) (opN lenD (consM (st0M 0 ns) (pureM [])))) (putM 2))
  (seqM (retM (op2 modD (opN intD (consM (op2 addD (op2 addD (op2 ixD (st0M 0 ns) (op2 modD (st1M 0) (opN lenD (consM (st0M 0 ns) (pureM []))))) (op2 mulXD (getM 2) (pureM (.int 389)))) (op2 mulXD (op2 mulXD (st1M 0) (getM 2)) (pureM (.int 17)))) (pureM []))) (getM 1)))
  nextM)))
def h_L_next : FnM := fn 2 3 m_L_next
theorem cal_L_next (T : Txt K mg) (D : DefD K mg "_law_next" s_L_next ["state", "many"])  : CalD P w K mg base "_law_next" 1 h_L_next := by
  have nd := sc_L_next.nd
  refine D.cal (k := 0) sc_L_next rfl fun f stc cdv A outer s H E hr hgu hu => ?_
  exact (sscons (sst 0 (gadd (gst1 0) gint))
  (sscons (sset 2 nd (gfdiv (gst1 0) (gcb call_len vn_len PySem.boot_len T.n_len (acons (gst0 0) anil))))
  (sscons (sret (gmod (gct call_int1 vn_int PyProof.Rows.boot_int T.n_int (acons (gadd (gadd (gix (gst0 0) (gmod (gst1 0) (gcb call_len vn_len PySem.boot_len T.n_len (acons (gst0 0) anil)))) (gmul (gv 2) gint)) (gmul (gmul (gst1 0) (gv 2)) gint)) anil)) (gv 1)))
  ssnil)))
/-! _law_told -/
abbrev s_L_told : Stmt := topS 36
abbrev N_L_told : List Str := ["kind", "one", "two", "e"]
theorem sc_L_told : FnScope N_L_told ["kind", "one", "two"] (defScope s_L_told) := ⟨rfl, rfl, rfl, by decide +kernel, rfl, by decide +kernel, by decide +kernel⟩
def m_L_told (ns : List Int) : M Fl :=
  (seqM (tryM nmE
  (seqM (ifM (asB (op2 ltD (getM 0) (pureM (.int 5))))
  (seqM (retM (tupM (consM (pureM (.str "told")) (consM (pickM [h_steps_on, h_messages, h_rounds_to_know, h_left_by_rounds, h_rounds_of_two] ns (getM 0) (datsM (consM (getM 1) (pureM [])))) (pureM [])))))
  nextM)
  nextM)
  (seqM (ifM (asB (op2 ltD (getM 0) (pureM (.int 10))))
  (seqM (retM (tupM (consM (pureM (.str "told")) (consM (pickM [h_most_messages, h_fewest_messages, h_mean_messages, h_spread_of, h_most_rounds] ns (op2 subD (getM 0) (pureM (.int 5))) (datsM (consM (getM 1) (pureM [])))) (pureM [])))))
  nextM)
  nextM)
  (seqM (retM (tupM (consM (pureM (.str "told")) (consM (pickM [h_orders_with, h_ring_with, h_stops_at] ns (op2 subD (getM 0) (pureM (.int 10))) (datsM (consM (getM 1) (consM (getM 2) (pureM []))))) (pureM [])))))
  nextM))))
  nextM)
def h_L_told : FnM := fn 3 4 m_L_told
theorem cal_L_told (T : Txt K mg) (D : DefD K mg "_law_told" s_L_told ["kind", "one", "two"]) (c_orders_with : CalD P w K mg base "orders_with" 2 h_orders_with) (c_ring_with : CalD P w K mg base "ring_with" 2 h_ring_with) (c_stops_at : CalD P w K mg base "stops_at" 2 h_stops_at) (c_most_messages : CalD P w K mg base "most_messages" 2 h_most_messages) (c_fewest_messages : CalD P w K mg base "fewest_messages" 2 h_fewest_messages) (c_mean_messages : CalD P w K mg base "mean_messages" 2 h_mean_messages) (c_spread_of : CalD P w K mg base "spread_of" 2 h_spread_of) (c_most_rounds : CalD P w K mg base "most_rounds" 2 h_most_rounds) (c_steps_on : CalD P w K mg base "steps_on" 2 h_steps_on) (c_messages : CalD P w K mg base "messages" 2 h_messages) (c_rounds_to_know : CalD P w K mg base "rounds_to_know" 2 h_rounds_to_know) (c_left_by_rounds : CalD P w K mg base "left_by_rounds" 2 h_left_by_rounds) (c_rounds_of_two : CalD P w K mg base "rounds_of_two" 2 h_rounds_of_two) (c_err : ErrD P w K mg base 2 nmE) : CalD P w K mg base "_law_told" 3 h_L_told := by
  have nd := sc_L_told.nd
  refine D.cal (k := 2) sc_L_told rfl fun f stc cdv A outer s H E hr hgu hu => ?_
  exact (sscons (stry 3 c_err (hr.mono (by decide)) rfl rfl nd fun W pn xe tk po =>
  (sscons (sif (tcmp op_lt v2_lt (gv 0) gint)
  (sscons (sret (gtup (acons gstr (acons (gpick (pkcons (c_steps_on.mono (k := 2) (by decide)) (pkcons (c_messages.mono (k := 2) (by decide)) (pkcons (c_rounds_to_know.mono (k := 2) (by decide)) (pkcons (c_left_by_rounds.mono (k := 2) (by decide)) (pkcons (c_rounds_of_two.mono (k := 2) (by decide)) pknil))))) (hr.mono (by decide)) hgu (exT tk) (gv 0) (xdat (acons (gv 1) anil))) anil))))
  ssnil)
  ssnil)
  (sscons (sif (tcmp op_lt v2_lt (gv 0) gint)
  (sscons (sret (gtup (acons gstr (acons (gpick (pkcons (c_most_messages.mono (k := 2) (by decide)) (pkcons (c_fewest_messages.mono (k := 2) (by decide)) (pkcons (c_mean_messages.mono (k := 2) (by decide)) (pkcons (c_spread_of.mono (k := 2) (by decide)) (pkcons (c_most_rounds.mono (k := 2) (by decide)) pknil))))) (hr.mono (by decide)) hgu (exT tk) (gsub (gv 0) gint) (xdat (acons (gv 1) anil))) anil))))
  ssnil)
  ssnil)
  (sscons (sret (gtup (acons gstr (acons (gpick (pkcons (c_orders_with.mono (k := 2) (by decide)) (pkcons (c_ring_with.mono (k := 2) (by decide)) (pkcons (c_stops_at.mono (k := 2) (by decide)) pknil))) (hr.mono (by decide)) hgu (exT tk) (gsub (gv 0) gint) (xdat (acons (gv 1) (acons (gv 2) anil)))) anil))))
  ssnil))))
  ssnil)
/-! _law_steps -/
abbrev s_L_steps : Stmt := topS 37
abbrev N_L_steps : List Str := ["row", "many", "steps", "moving", "turn", "still", "start", "here", "there", "k"]
theorem sc_L_steps : FnScope N_L_steps ["row"] (defScope s_L_steps) := ⟨rfl, rfl, rfl, by decide +kernel, rfl, by decide +kernel, by decide +kernel⟩
def m_L_steps (ns : List Int) : M Fl :=
  (seqM (asgM (opN lenD (consM (getM 0) (pureM []))) (putM 1))
  (seqM (asgF (repF (lstM (guardL (consM (pureM (.int 0)) (pureM [])))) (getM 1)) 2)
  (seqM (asgM (lstM (lcM (srcA rng1 (consM (getM 1) (pureM []))) (putM 9) yesM (tupM (consM (getM 9) (consM (getM 9) (pureM [])))) [9])) (putM 3))
  (seqM (forS (srcA rng1 (consM (getM 1) (pureM []))) (putM 4)
  (seqM (asgF (guardL (pureM [])) 5)
  (seqM (forS (srcM (getM 3)) (tupG 2 (gConsM (putM 6) (gConsM (putM 7) gNilM)))
  (seqM (asgM (op2 modD (op2 addD (getM 7) (pureM (.int 1))) (getM 1)) (putM 8))
  (seqM (lputM 2 (getM 6) (op2 addD (ixV 2 (getM 6)) (pureM (.int 1))))
  (seqM (ifM (andM (asB (op2 neD (getM 8) (getM 6))) (asB (op2 gtD (op2 ixD (getM 0) (getM 6)) (op2 ixD (getM 0) (getM 8)))))
  (seqM (appM 5 (tupM (consM (getM 6) (consM (getM 8) (pureM [])))))
  nextM)
  nextM)
  nextM))))
  (seqM (asgM (getM 5) (putM 3))
  nextM))))
  (seqM (retM (getM 2))
  nextM)))))
def h_L_steps : FnM := fn 1 10 m_L_steps
theorem cal_L_steps (T : Txt K mg) (D : DefD K mg "_law_steps" s_L_steps ["row"])  : CalD P w K mg base "_law_steps" 1 h_L_steps := by
  have nd := sc_L_steps.nd
  refine D.cal (k := 0) sc_L_steps rfl fun f stc cdv A outer s H E hr hgu hu => ?_
  exact (sscons (sset 1 nd (gcb call_len vn_len PySem.boot_len T.n_len (acons (gv 0) anil)))
  (sscons (ssetF 2 nd (flrep (glst (acons gint anil)) (gv 1)))
  (sscons (slc 3 [("k", 9)] .dat rfl nd (blkOk_by (N := N_L_steps) (sc := defScope s_L_steps) (by decide +kernel)) (sw_true rfl rfl rfl (by decide +kernel)) (irng1 T.n_range (acons (gv 1) anil)) (fun _ _ _ _ _ => (hname 9 nd)) (fun _ _ _ _ _ => tsnil) (fun _ _ _ _ _ => (gtup (acons (gv 9) (acons (gv 9) anil)))))
  (sscons (sfor (L2.passes_of rfl) rfl (irng1 T.n_range (acons (gv 1) anil)) (hname 4 nd)
  (sscons (ssetF 5 nd (flst anil))
  (sscons (sfor (L2.passes_of rfl) rfl (ilist (gv 3)) (htup 2 rfl (hcons (hname 6 nd) (hcons (hname 7 nd) hnil)))
  (sscons (sset 8 nd (gmod (gadd (gv 7) gint) (gv 1)))
  (sscons (slput 2 (gv 6) (gadd (gixV 2 (gv 6)) gint))
  (sscons (sif (tw (wand (tcmp (op_neD (u64 hu)) v2_ne (gv 8) (gv 6)) (wand1 (tcmp op_gt v2_gt (gix (gv 0) (gv 6)) (gix (gv 0) (gv 8))))))
  (sscons (sapp 5 (gtup (acons (gv 6) (acons (gv 8) anil))))
  ssnil)
  ssnil)
  ssnil))))
  (sscons (sset 3 nd (gv 5))
  ssnil))))
  (sscons (sret (gv 2))
  ssnil)))))
/-! _law_all -/
abbrev s_L_all : Stmt := topS 38
abbrev N_L_all : List Str := ["many", "rows", "k", "longer", "row", "one"]
theorem sc_L_all : FnScope N_L_all ["many"] (defScope s_L_all) := ⟨rfl, rfl, rfl, by decide +kernel, rfl, by decide +kernel, by decide +kernel⟩
def m_L_all (ns : List Int) : M Fl :=
  (seqM (asgM (lstM (guardL (consM (tupM (consM (op2 subD (getM 0) (pureM (.int 1))) (pureM []))) (pureM [])))) (putM 1))
  (seqM (forS (srcA rng1 (consM (op2 subD (getM 0) (pureM (.int 1))) (pureM []))) (putM 2)
  (seqM (asgM (lstM (guardL (pureM []))) (putM 3))
  (seqM (forS (srcM (getM 1)) (putM 4)
  (seqM (asgM (op2 addD (getM 3) (lstM (lcM (srcA rng1 (consM (getM 0) (pureM []))) (putM 5) (asB (op2 (inD true) (getM 5) (getM 4))) (op2 addD (getM 4) (tupM (consM (getM 5) (pureM [])))) [5]))) (putM 3))
  nextM))
  (seqM (asgM (getM 3) (putM 1))
  nextM))))
  (seqM (retM (getM 1))
  nextM)))
def h_L_all : FnM := fn 1 6 m_L_all
theorem cal_L_all (T : Txt K mg) (D : DefD K mg "_law_all" s_L_all ["many"])  : CalD P w K mg base "_law_all" 1 h_L_all := by
  have nd := sc_L_all.nd
  refine D.cal (k := 0) sc_L_all rfl fun f stc cdv A outer s H E hr hgu hu => ?_
  exact (sscons (sset 1 nd (glst (acons (gtup (acons (gsub (gv 0) gint) anil)) anil)))
  (sscons (sfor (L2.passes_of rfl) rfl (irng1 T.n_range (acons (gsub (gv 0) gint) anil)) (hname 2 nd)
  (sscons (sset 3 nd (glst anil))
  (sscons (sfor (L2.passes_of rfl) rfl (ilist (gv 1)) (hname 4 nd)
  (sscons (sset 3 nd (gadd (gv 3) (gF (flc [("one", 5)] rfl nd (blkOk_by (N := N_L_all) (sc := defScope s_L_all) (by decide +kernel)) (irng1 T.n_range (acons (gv 0) anil)) (fun _ _ _ _ _ => (hname 5 nd)) (fun _ _ _ _ _ => (tsone (tcmp (op_notInX hu) v2_in (gv 5) (gv 4)))) (fun _ _ _ _ _ => (gadd (gv 4) (gtup (acons (gv 5) anil))))))))
  ssnil))
  (sscons (sset 1 nd (gv 3))
  ssnil))))
  (sscons (sret (gv 1))
  ssnil)))
/-! _law_rounds -/
abbrev s_L_rounds : Stmt := topS 39
abbrev N_L_rounds : List Str := ["row", "found", "here", "kept", "k"]
theorem sc_L_rounds : FnScope N_L_rounds ["row"] (defScope s_L_rounds) := ⟨rfl, rfl, rfl, by decide +kernel, rfl, by decide +kernel, by decide +kernel⟩
def m_L_rounds (ns : List Int) : M Fl :=
  (seqM (asgF (guardL (consM (getM 0) (pureM []))) 1)
  (seqM (whileM 1000 (asB (op2 gtD (opN lenD (consM (ixV 1 (op1 negD (pureM (.int 1)))) (pureM []))) (pureM (.int 1))))
  (seqM (asgM (ixV 1 (op1 negD (pureM (.int 1)))) (putM 2))
  (seqM (asgF (guardL (pureM [])) 3)
  (seqM (forS (srcA rng1 (consM (opN lenD (consM (getM 2) (pureM []))) (pureM []))) (putM 4)
  (seqM (ifM (andM (asB (op2 gtD (op2 ixD (getM 2) (getM 4)) (op2 ixD (getM 2) (op2 subD (getM 4) (pureM (.int 1)))))) (asB (op2 gtD (op2 ixD (getM 2) (getM 4)) (op2 ixD (getM 2) (op2 modD (op2 addD (getM 4) (pureM (.int 1))) (opN lenD (consM (getM 2) (pureM []))))))))
  (seqM (appM 3 (op2 ixD (getM 2) (getM 4)))
  nextM)
  nextM)
  nextM))
  (seqM (appM 1 (opN tupleOfD (consM (getM 3) (pureM []))))
  nextM)))))
  (seqM (retM (getM 1))
  nextM)))
def h_L_rounds : FnM := fn 1 5 m_L_rounds
theorem cal_L_rounds (T : Txt K mg) (D : DefD K mg "_law_rounds" s_L_rounds ["row"])  : CalD P w K mg base "_law_rounds" 1 h_L_rounds := by
  have nd := sc_L_rounds.nd
  refine D.cal (k := 0) sc_L_rounds rfl fun f stc cdv A outer s H E hr hgu hu => ?_
  exact (sscons (ssetF 1 nd (flst (acons (gv 0) anil)))
  (sscons (swhile 1000 (L2.passes_of rfl) (tcmp op_gt v2_gt (gcb call_len vn_len PySem.boot_len T.n_len (acons (gixV 1 (gneg gint)) anil)) gint)
  (sscons (sset 2 nd (gixV 1 (gneg gint)))
  (sscons (ssetF 3 nd (flst anil))
  (sscons (sfor (L2.passes_of rfl) rfl (irng1 T.n_range (acons (gcb call_len vn_len PySem.boot_len T.n_len (acons (gv 2) anil)) anil)) (hname 4 nd)
  (sscons (sif (tw (wand (tcmp op_gt v2_gt (gix (gv 2) (gv 4)) (gix (gv 2) (gsub (gv 4) gint))) (wand1 (tcmp op_gt v2_gt (gix (gv 2) (gv 4)) (gix (gv 2) (gmod (gadd (gv 4) gint) (gcb call_len vn_len PySem.boot_len T.n_len (acons (gv 2) anil))))))))
  (sscons (sapp 3 (gix (gv 2) (gv 4)))
  ssnil)
  ssnil)
  ssnil))
  (sscons (sapp 1 (gct call_tuple_of vn_tupleOf PyProof.Rows.boot_tuple T.n_tuple (acons (gv 3) anil)))
  ssnil)))))
  (sscons (sret (gv 1))
  ssnil)))
/-! _law_terms -/
abbrev s_L_terms : Stmt := topS 40
abbrev N_L_terms : List Str := ["number", "part", "one", "other"]
theorem sc_L_terms : FnScope N_L_terms ["number", "part"] (defScope s_L_terms) := ⟨rfl, rfl, rfl, by decide +kernel, rfl, by decide +kernel, by decide +kernel⟩
def m_L_terms (ns : List Int) : M Fl :=
  (seqM (parM 2 3 (consM (getM 0) (consM (getM 1) (pureM []))))
  (seqM (whileM 1000 (asB (op2 gtD (getM 3) (pureM (.int 0))))
  (seqM (parM 2 3 (consM (getM 3) (consM (op2 modD (opN intD (consM (getM 2) (pureM []))) (getM 3)) (pureM []))))
  nextM))
  (seqM (retM (tupM (consM (op2 fdivWD (getM 0) (getM 2)) (consM (op2 fdivWD (getM 1) (getM 2)) (pureM [])))))
  nextM)))
def h_L_terms : FnM := fn 2 4 m_L_terms
theorem cal_L_terms (T : Txt K mg) (D : DefD K mg "_law_terms" s_L_terms ["number", "part"])  : CalD P w K mg base "_law_terms" 1 h_L_terms := by
  have nd := sc_L_terms.nd
  refine D.cal (k := 0) sc_L_terms rfl fun f stc cdv A outer s H E hr hgu hu => ?_
  exact (sscons (spar 2 3 rfl nd (acons (gv 0) (acons (gv 1) anil)))
  (sscons (swhile 1000 (L2.passes_of rfl) (tcmp op_gt v2_gt (gv 3) gint)
  (sscons (spar 2 3 rfl nd (acons (gv 3) (acons (gmod (gct call_int1 vn_int PyProof.Rows.boot_int T.n_int (acons (gv 2) anil)) (gv 3)) anil)))
  ssnil))
  (sscons (sret (gtup (acons (gfdivW (gv 0) (gv 2)) (acons (gfdivW (gv 1) (gv 2)) anil))))
  ssnil)))
/-! _law_drawn -/
abbrev s_L_drawn : Stmt := topS 41
abbrev N_L_drawn : List Str := ["state", "many", "left", "row", "k"]
theorem sc_L_drawn : FnScope N_L_drawn ["state"] (defScope s_L_drawn) := ⟨rfl, rfl, rfl, by decide +kernel, rfl, by decide +kernel, by decide +kernel⟩
def m_L_drawn (ns : List Int) : M Fl :=
  (seqM (asgM (op2 addD (pureM (.int 1)) (callM h_L_next ns (staM 0 (consM (op2 ixD (lstM (guardL (consM (pureM (.int 6)) (consM (pureM (.int 12)) (consM (pureM (.int 40)) (pureM [])))))) (callM h_L_next ns (staM 0 (consM (pureM (.int 3)) (pureM []))))) (pureM []))))) (putM 1))
  (seqM (asgF (lcM (srcA rng1 (consM (getM 1) (pureM []))) (putM 4) yesM (op2 subD (op2 mulXD (pureM (.int 3)) (getM 4)) (pureM (.int 7))) [4]) 2)
  (seqM (asgF (guardL (pureM [])) 3)
  (seqM (forS (srcA rng1 (consM (getM 1) (pureM []))) (putM 4)
  (seqM (appM 3 (popM 2 (callM h_L_next ns (staM 0 (consM (lenV 2) (pureM []))))))
  nextM))
  (seqM (retM (op2 ixD (lstM (guardL (consM (opN tupleOfD (consM (getM 3) (pureM []))) (consM (opN tupleOfD (consM (getM 3) (pureM []))) (consM (opN tupleOfD (consM (opN sortedD (consM (getM 3) (pureM []))) (pureM []))) (consM (op1 revTD (opN tupleOfD (consM (opN sortedD (consM (getM 3) (pureM []))) (pureM [])))) (pureM []))))))) (callM h_L_next ns (staM 0 (consM (pureM (.int 4)) (pureM []))))))
  nextM)))))
def h_L_drawn : FnM := fn 1 5 m_L_drawn
theorem cal_L_drawn (T : Txt K mg) (D : DefD K mg "_law_drawn" s_L_drawn ["state"]) (c_L_next : CalD P w K mg base "_law_next" 1 h_L_next) : CalD P w K mg base "_law_drawn" 2 h_L_drawn := by
  have nd := sc_L_drawn.nd
  refine D.cal (k := 1) sc_L_drawn rfl fun f stc cdv A outer s H E hr hgu hu => ?_
  exact (sscons (sset 1 nd (gadd gint (gcall c_L_next (hr.mono (by decide)) hgu (exB (L2N.takes_of rfl rfl rfl rfl)) (xsta 0 (acons (gix (glst (acons gint (acons gint (acons gint anil)))) (gcall c_L_next (hr.mono (by decide)) hgu (exB (L2N.takes_of rfl rfl rfl rfl)) (xsta 0 (acons gint anil)))) anil)))))
  (sscons (slc 2 [("k", 4)] .own rfl nd (blkOk_by (N := N_L_drawn) (sc := defScope s_L_drawn) (by decide +kernel)) (sw_true rfl rfl rfl (by decide +kernel)) (irng1 T.n_range (acons (gv 1) anil)) (fun _ _ _ _ _ => (hname 4 nd)) (fun _ _ _ _ _ => tsnil) (fun _ _ _ _ _ => (gsub (gmul gint (gv 4)) gint)))
  (sscons (ssetF 3 nd (flst anil))
  (sscons (sfor (L2.passes_of rfl) rfl (irng1 T.n_range (acons (gv 1) anil)) (hname 4 nd)
  (sscons (sapp 3 (gpop 2 (gcall c_L_next (hr.mono (by decide)) hgu (exB (L2N.takes_of rfl rfl rfl rfl)) (xsta 0 (acons (glenV 2 T.n_len) anil)))))
  ssnil))
  (sscons (sret (gix (glst (acons (gct call_tuple_of vn_tupleOf PyProof.Rows.boot_tuple T.n_tuple (acons (gv 3) anil)) (acons (gct call_tuple_of vn_tupleOf PyProof.Rows.boot_tuple T.n_tuple (acons (gv 3) anil)) (acons (gct call_tuple_of vn_tupleOf PyProof.Rows.boot_tuple T.n_tuple (acons (gcb cr_sortedI vn_sortedI boot_sorted T.n_sorted (acons (gv 3) anil)) anil)) (acons (grevT (gct call_tuple_of vn_tupleOf PyProof.Rows.boot_tuple T.n_tuple (acons (gcb cr_sortedI vn_sortedI boot_sorted T.n_sorted (acons (gv 3) anil)) anil))) anil))))) (gcall c_L_next (hr.mono (by decide)) hgu (exB (L2N.takes_of rfl rfl rfl rfl)) (xsta 0 (acons gint anil)))))
  ssnil)))))
/-! law -/
abbrev s_law : Stmt := topS 42
abbrev N_law : List Str := ["script", "state", "turn", "row", "many", "steps", "rounds", "at", "size", "counts", "spread", "due", "wish", "shown", "great", "part", "k", "mean", "wide", "one"]
theorem sc_law : FnScope N_law ["script"] (defScope s_law) := ⟨rfl, rfl, rfl, by decide +kernel, rfl, by decide +kernel, by decide +kernel⟩
def m_law (ns : List Int) : M Fl :=
  (seqM (forS (srcA rng1 (consM (pureM (.int 5)) (pureM []))) (putM 2)
  (seqM (asgM (callM h_L_drawn ns (staM 1 (pureM []))) (putM 3))
  (seqM (asgM (opN lenD (consM (getM 3) (pureM []))) (putM 4))
  (seqM (asgM (callM h_L_steps ns (datsM (consM (getM 3) (pureM [])))) (putM 5))
  (seqM (asgM (callM h_L_rounds ns (datsM (consM (getM 3) (pureM [])))) (putM 6))
  (seqM (ifM (notM (asB (callM h_L_same ns (datsM (consM (lstM (lcM (srcA rng1 (consM (pureM (.int 5)) (pureM []))) (putM 16) yesM (callM h_L_told ns (datsM (consM (getM 16) (consM (getM 3) (consM (pureM (.int 0)) (pureM [])))))) [16])) (consM (lstM (guardL (consM (tupM (consM (pureM (.str "told")) (consM (opN tupleOfD (consM (getM 5) (pureM []))) (pureM [])))) (consM (tupM (consM (pureM (.str "told")) (consM (opN sumD (consM (getM 5) (pureM []))) (pureM [])))) (consM (tupM (consM (pureM (.str "told")) (consM (opN maxD (consM (getM 5) (pureM []))) (pureM [])))) (consM (tupM (consM (pureM (.str "told")) (consM (getM 6) (pureM [])))) (consM (tupM (consM (pureM (.str "told")) (consM (op2 subD (opN lenD (consM (getM 6) (pureM []))) (pureM (.int 1))) (pureM [])))) (pureM [])))))))) (pureM [])))))))
  (seqM (retM (pureM (.bool false)))
  nextM)
  nextM)
  (seqM (ifM (orM (asB (op2 gtD (opN lenD (consM (lstM (lcM (srcA rng1 (consM (op2 subD (opN lenD (consM (getM 6) (pureM []))) (pureM (.int 1))) (pureM []))) (putM 16) (asB (op2 gtD (op2 mulXD (pureM (.int 2)) (opN lenD (consM (op2 ixD (getM 6) (op2 addD (getM 16) (pureM (.int 1)))) (pureM [])))) (opN lenD (consM (op2 ixD (getM 6) (getM 16)) (pureM []))))) (getM 16) [16])) (pureM []))) (pureM (.int 0)))) (notM (asB (chainM leD leD (op2 subD (op2 mulXD (pureM (.int 2)) (getM 4)) (pureM (.int 1))) (opN sumD (consM (getM 5) (pureM []))) (op2 fdivD (op2 mulXD (getM 4) (op2 addD (getM 4) (pureM (.int 1)))) (pureM (.int 2)))))))
  (seqM (retM (pureM (.bool false)))
  nextM)
  nextM)
  (seqM (asgM (callM h_L_next ns (staM 1 (consM (getM 4) (pureM [])))) (putM 7))
  (seqM (ifM (orM (asB (op2 neD (callM h_L_told ns (datsM (consM (pureM (.int 12)) (consM (getM 3) (consM (getM 7) (pureM [])))))) (tupM (consM (pureM (.str "told")) (consM (op2 modD (op2 addD (getM 7) (op2 ixD (getM 5) (getM 7))) (getM 4)) (pureM [])))))) (asB (op2 neD (lstM (lcM (srcM (lstM (guardL (consM (op1 negD (pureM (.int 1))) (consM (getM 4) (pureM [])))))) (putM 19) yesM (callM h_L_told ns (datsM (consM (pureM (.int 12)) (consM (getM 3) (consM (getM 19) (pureM [])))))) [19])) (op2 mulXD (lstM (guardL (consM (pureM (.str "refused")) (pureM [])))) (pureM (.int 2))))))
  (seqM (retM (pureM (.bool false)))
  nextM)
  nextM)
  (seqM (asgM (op2 addD (pureM (.int 1)) (callM h_L_next ns (staM 1 (consM (op2 ixD (lstM (guardL (consM (pureM (.int 6)) (consM (pureM (.int 7)) (pureM []))))) (opN intD (consM (op2 eqD (callM h_L_next ns (staM 1 (consM (pureM (.int 6)) (pureM [])))) (pureM (.int 0))) (pureM [])))) (pureM []))))) (putM 8))
  (seqM (asgM (lstM (lcM (srcM (callM h_L_all ns (datsM (consM (getM 8) (pureM []))))) (putM 19) yesM (opN sumD (consM (callM h_L_steps ns (datsM (consM (getM 19) (pureM [])))) (pureM []))) [19])) (putM 9))
  (seqM (asgM (opN tupleOfD (consM (lstM (lcM (srcM (op1 sortSetD (getM 9))) (putM 19) yesM (tupM (consM (getM 19) (consM (cntM (getM 9) (getM 19)) (pureM [])))) [19])) (pureM []))) (putM 10))
  (seqM (asgM (lstM (guardL (consM (opN maxD (consM (getM 9) (pureM []))) (consM (opN minD (consM (getM 9) (pureM []))) (consM (callM h_L_terms ns (datsM (consM (opN sumD (consM (getM 9) (pureM []))) (consM (opN lenD (consM (getM 9) (pureM []))) (pureM []))))) (consM (getM 10) (pureM []))))))) (putM 11))
  (seqM (ifM (notM (asB (callM h_L_same ns (datsM (consM (lstM (lcM (srcM (lstM (guardL (consM (pureM (.int 5)) (consM (pureM (.int 6)) (consM (pureM (.int 7)) (consM (pureM (.int 8)) (pureM [])))))))) (putM 16) yesM (callM h_L_told ns (datsM (consM (getM 16) (consM (getM 8) (consM (pureM (.int 0)) (pureM [])))))) [16])) (consM (lstM (lcM (srcM (getM 11)) (putM 19) yesM (tupM (consM (pureM (.str "told")) (consM (getM 19) (pureM [])))) [19])) (pureM [])))))))
  (seqM (retM (pureM (.bool false)))
  nextM)
  nextM)
  (seqM (asgM (callM h_L_next ns (staM 1 (consM (op2 addD (opN maxD (consM (getM 9) (pureM []))) (pureM (.int 3))) (pureM [])))) (putM 12))
  (seqM (ifM (asB (op2 neD (callM h_L_told ns (datsM (consM (pureM (.int 10)) (consM (getM 8) (consM (getM 12) (pureM [])))))) (tupM (consM (pureM (.str "told")) (consM (cntM (getM 9) (getM 12)) (pureM []))))))
  (seqM (retM (pureM (.bool false)))
  nextM)
  nextM)
  (seqM (asgM (callM h_L_told ns (datsM (consM (pureM (.int 11)) (consM (getM 8) (consM (getM 12) (pureM [])))))) (putM 13))
  (seqM (ifM (asB (op2 neD (op2 eqD (getM 13) (pureM (.str "refused"))) (op2 (inD true) (getM 12) (getM 9))))
  (seqM (retM (pureM (.bool false)))
  nextM)
  nextM)
  (seqM (ifM (andM (asB (op2 neD (getM 13) (pureM (.str "refused")))) (orM (asB (op2 neD (opN sortedTD (consM (op2 ixD (getM 13) (pureM (.int 1))) (pureM []))) (lstM (lrgF (getM 8))))) (orM (asB (op2 neD (op2 ixD (op2 ixD (getM 13) (pureM (.int 1))) (pureM (.int 0))) (op2 subD (getM 8) (pureM (.int 1))))) (asB (op2 neD (opN sumD (consM (callM h_L_steps ns (datsM (consM (op2 ixD (getM 13) (pureM (.int 1))) (pureM [])))) (pureM []))) (getM 12))))))
  (seqM (retM (pureM (.bool false)))
  nextM)
  nextM)
  (seqM (asgM (op2 addD (pureM (.int 8)) (callM h_L_next ns (staM 1 (consM (pureM (.int 33)) (pureM []))))) (putM 14))
  (seqM (asgM (op2 addD (op2 subD (op2 mulXD (pureM (.int 2)) (getM 14)) (pureM (.int 1))) (op2 modD (op2 addD (op2 mulXD (callM h_L_next ns (staM 1 (consM (pureM (.int 1009)) (pureM [])))) (pureM (.int 7))) (callM h_L_next ns (staM 1 (consM (pureM (.int 7)) (pureM []))))) (op2 addD (op2 fdivD (op2 mulXD (op2 subD (getM 14) (pureM (.int 1))) (op2 subD (getM 14) (pureM (.int 2)))) (pureM (.int 2))) (pureM (.int 1))))) (putM 12))
  (seqM (asgM (callM h_L_told ns (datsM (consM (pureM (.int 11)) (consM (getM 14) (consM (getM 12) (pureM [])))))) (putM 13))
  (seqM (ifM (orM (asB (op2 neD (op2 ixD (getM 13) (pureM (.int 0))) (pureM (.str "told")))) (orM (asB (op2 neD (opN sortedTD (consM (op2 ixD (getM 13) (pureM (.int 1))) (pureM []))) (lstM (lrgF (getM 14))))) (orM (asB (op2 neD (op2 ixD (op2 ixD (getM 13) (pureM (.int 1))) (pureM (.int 0))) (op2 subD (getM 14) (pureM (.int 1))))) (asB (op2 neD (opN sumD (consM (callM h_L_steps ns (datsM (consM (op2 ixD (getM 13) (pureM (.int 1))) (pureM [])))) (pureM []))) (getM 12))))))
  (seqM (retM (pureM (.bool false)))
  nextM)
  nextM)
  (seqM (asgM (pureM (.int 1)) (putM 15))
  (seqM (forS (srcA rng2 (consM (pureM (.int 2)) (consM (op2 addD (getM 14) (pureM (.int 1))) (pureM [])))) (putM 16)
  (seqM (asgM (op2 mulXD (getM 15) (getM 16)) (putM 15))
  nextM))
  (seqM (asgM (callM h_L_terms ns (datsM (consM (opN sumD (consM (lstM (lcM (srcA rng2 (consM (pureM (.int 1)) (consM (op2 addD (getM 14) (pureM (.int 1))) (pureM [])))) (putM 16) yesM (op2 mulXD (getM 14) (op2 fdivD (getM 15) (getM 16))) [16])) (pureM []))) (consM (getM 15) (pureM []))))) (putM 17))
  (seqM (ifM (notM (asB (callM h_L_same ns (datsM (consM (lstM (lcM (srcM (lstM (guardL (consM (pureM (.int 5)) (consM (pureM (.int 6)) (consM (pureM (.int 7)) (pureM []))))))) (putM 16) yesM (callM h_L_told ns (datsM (consM (getM 16) (consM (getM 14) (consM (pureM (.int 0)) (pureM [])))))) [16])) (consM (lstM (guardL (consM (tupM (consM (pureM (.str "told")) (consM (op2 fdivD (op2 mulXD (getM 14) (op2 addD (getM 14) (pureM (.int 1)))) (pureM (.int 2))) (pureM [])))) (consM (tupM (consM (pureM (.str "told")) (consM (op2 subD (op2 mulXD (pureM (.int 2)) (getM 14)) (pureM (.int 1))) (pureM [])))) (consM (tupM (consM (pureM (.str "told")) (consM (getM 17) (pureM [])))) (pureM [])))))) (pureM [])))))))
  (seqM (retM (pureM (.bool false)))
  nextM)
  nextM)
  (seqM (ifM (orM (asB (op2 neD (callM h_L_told ns (datsM (consM (pureM (.int 9)) (consM (getM 8) (consM (pureM (.int 0)) (pureM [])))))) (tupM (consM (pureM (.str "told")) (consM (opN maxD (consM (lstM (lcM (srcM (callM h_L_all ns (datsM (consM (getM 8) (pureM []))))) (putM 19) yesM (op2 subD (opN lenD (consM (callM h_L_rounds ns (datsM (consM (getM 19) (pureM [])))) (pureM []))) (pureM (.int 1))) [19])) (pureM []))) (pureM [])))))) (asB (op2 neD (callM h_L_told ns (datsM (consM (pureM (.int 9)) (consM (getM 14) (consM (pureM (.int 0)) (pureM [])))))) (tupM (consM (pureM (.str "told")) (consM (op2 ixD (lstM (guardL (consM (pureM (.int 3)) (consM (pureM (.int 4)) (consM (pureM (.int 5)) (pureM [])))))) (op2 addD (opN intD (consM (op2 gtD (getM 14) (pureM (.int 15))) (pureM []))) (opN intD (consM (op2 gtD (getM 14) (pureM (.int 31))) (pureM []))))) (pureM [])))))))
  (seqM (retM (pureM (.bool false)))
  nextM)
  nextM)
  (seqM (ifM (orM (asB (op2 neD (op2 addD (lstM (lcM (srcA rng1 (consM (pureM (.int 5)) (pureM []))) (putM 16) yesM (callM h_L_told ns (datsM (consM (getM 16) (consM (tupM (pureM [])) (consM (pureM (.int 0)) (pureM [])))))) [16])) (lstM (lcM (srcA rng1 (consM (pureM (.int 5)) (pureM []))) (putM 16) yesM (callM h_L_told ns (datsM (consM (getM 16) (consM (tupM (consM (pureM (.int 1)) (consM (pureM (.int 1)) (pureM [])))) (consM (pureM (.int 0)) (pureM [])))))) [16]))) (op2 mulXD (lstM (guardL (consM (pureM (.str "refused")) (pureM [])))) (pureM (.int 10))))) (asB (op2 neD (lstM (lcM (srcM (lstM (guardL (consM (tupM (pureM [])) (consM (tupM (consM (pureM (.int 2)) (consM (pureM (.int 1)) (consM (pureM (.int 2)) (pureM []))))) (pureM [])))))) (putM 19) yesM (callM h_L_told ns (datsM (consM (pureM (.int 12)) (consM (getM 19) (consM (pureM (.int 0)) (pureM [])))))) [19])) (op2 mulXD (lstM (guardL (consM (pureM (.str "refused")) (pureM [])))) (pureM (.int 2))))))
  (seqM (retM (pureM (.bool false)))
  nextM)
  nextM)
  (seqM (ifM (asB (op2 neD (op2 addD (lstM (lcM (srcA rng2 (consM (pureM (.int 5)) (consM (pureM (.int 12)) (pureM [])))) (putM 16) yesM (callM h_L_told ns (datsM (consM (getM 16) (consM (pureM (.int 0)) (consM (pureM (.int 2)) (pureM [])))))) [16])) (lstM (lcM (srcA rng2 (consM (pureM (.int 5)) (consM (pureM (.int 12)) (pureM [])))) (putM 16) yesM (callM h_L_told ns (datsM (consM (getM 16) (consM (op1 negD (pureM (.int 1))) (consM (pureM (.int 2)) (pureM [])))))) [16]))) (op2 mulXD (lstM (guardL (consM (pureM (.str "refused")) (pureM [])))) (pureM (.int 14)))))
  (seqM (retM (pureM (.bool false)))
  nextM)
  nextM)
  (seqM (asgM (trgM (pureM (.int 41))) (putM 18))
  (seqM (ifM (asB (op2 neD (op2 addD (op2 addD (op2 addD (lstM (lcM (srcM (lstM (guardL (consM (pureM (.int 0)) (consM (pureM (.int 1)) (consM (pureM (.int 2)) (consM (pureM (.int 3)) (consM (pureM (.int 4)) (consM (pureM (.int 12)) (pureM [])))))))))) (putM 16) yesM (callM h_L_told ns (datsM (consM (getM 16) (consM (getM 18) (consM (pureM (.int 0)) (pureM [])))))) [16])) (lstM (lcM (srcA rng1 (consM (pureM (.int 5)) (pureM []))) (putM 16) yesM (callM h_L_told ns (datsM (consM (getM 16) (consM (tupM (consM (pureM (.int 1000001)) (pureM []))) (consM (pureM (.int 0)) (pureM [])))))) [16]))) (lstM (lcM (srcM (lstM (guardL (consM (pureM (.int 5)) (consM (pureM (.int 6)) (consM (pureM (.int 7)) (consM (pureM (.int 9)) (consM (pureM (.int 11)) (pureM []))))))))) (putM 16) yesM (callM h_L_told ns (datsM (consM (getM 16) (consM (pureM (.int 41)) (consM (pureM (.int 99)) (pureM [])))))) [16]))) (lstM (lcM (srcM (lstM (guardL (consM (pureM (.int 8)) (consM (pureM (.int 10)) (pureM [])))))) (putM 16) yesM (callM h_L_told ns (datsM (consM (getM 16) (consM (pureM (.int 8)) (consM (pureM (.int 15)) (pureM [])))))) [16]))) (op2 mulXD (lstM (guardL (consM (pureM (.str "large")) (pureM [])))) (pureM (.int 18)))))
  (seqM (retM (pureM (.bool false)))
  nextM)
  nextM)
  nextM))))))))))))))))))))))))))))))))
  (seqM (retM (op2 eqD (tupM (consM (pureM (.int 40)) (consM (pureM (.int 7)) (consM (pureM (.int 1000000)) (pureM []))))) (tupM (consM (pureM (.int 40)) (consM (pureM (.int 7)) (consM (pureM (.int 1000000)) (pureM [])))))))
  nextM))
theorem ok_law (T : Txt K mg) {f : Addr} {fd : FuncData} (F : Fun K "law" "law" s_law f fd) (str : StrD P w K mg base 1) (c_L_told : CalD P w K mg base "_law_told" 3 h_L_told) (c_L_all : CalD P w K mg base "_law_all" 1 h_L_all) (c_L_rounds : CalD P w K mg base "_law_rounds" 1 h_L_rounds) (c_L_same : CalD P w K mg base "_law_same" 1 h_L_same) (c_L_terms : CalD P w K mg base "_law_terms" 1 h_L_terms) (c_L_steps : CalD P w K mg base "_law_steps" 1 h_L_steps) (c_L_next : CalD P w K mg base "_law_next" 1 h_L_next) (c_L_drawn : CalD P w K mg base "_law_drawn" 2 h_L_drawn) (ok : LawOk 18 m_law) : FnG P w K mg base 4 f fd ["script"] (spLaw K) := by
  have nd := sc_law.nd
  obtain ⟨fS, fdS, FS, gS, kS, bS⟩ := str.ex
  refine law_ok (k := 3) F sc_law rfl ok fun cdv A outer s H E hr hgu hu => ?_
  have pr : ∀ stc : Option StC, DSs (cx (cxOf (L2N.CX P w) P w K mg base N_law "law" (defScope s_law) f cdv A outer s H E) stc fun _ => E) (cxOf (L2N.CX P w) P w K mg base N_law "law" (defScope s_law) f cdv A outer s H E) ((defBody s_law).drop 1) (m_law (nsOf stc)) := fun stc =>
    (sscons (sfor (L2.passes_of rfl) rfl (irng1 T.n_range (acons gint anil)) (hname 2 nd)
  (sscons (sset 3 nd (gcall c_L_drawn (hr.mono (by decide)) hgu (exB (L2N.takes_of rfl rfl rfl rfl)) (xsta 1 anil)))
  (sscons (sset 4 nd (gcb call_len vn_len PySem.boot_len T.n_len (acons (gv 3) anil)))
  (sscons (sset 5 nd (gcall c_L_steps (hr.mono (by decide)) hgu (exB (L2N.takes_of rfl rfl rfl rfl)) (xdat (acons (gv 3) anil))))
  (sscons (sset 6 nd (gcall c_L_rounds (hr.mono (by decide)) hgu (exB (L2N.takes_of rfl rfl rfl rfl)) (xdat (acons (gv 3) anil))))
  (sscons (sif (tnot (tval (gcall c_L_same (hr.mono (by decide)) hgu (exB (L2N.takes_of rfl rfl rfl rfl)) (xdat (acons (gF (flc [("k", 16)] rfl nd (blkOk_by (N := N_law) (sc := defScope s_law) (by decide +kernel)) (irng1 T.n_range (acons gint anil)) (fun _ _ _ _ _ => (hname 16 nd)) (fun _ _ _ _ _ => tsnil) (fun _ _ _ _ _ => (gcall c_L_told (hr.mono (by decide)) hgu exq (xdat (acons (gv 16) (acons (gv 3) (acons gint anil)))))))) (acons (glst (acons (gtup (acons gstr (acons (gct call_tuple_of vn_tupleOf PyProof.Rows.boot_tuple T.n_tuple (acons (gv 5) anil)) anil))) (acons (gtup (acons gstr (acons (gcb (cr_sum rfl) vn_sum boot_sum T.n_sum (acons (gv 5) anil)) anil))) (acons (gtup (acons gstr (acons (gcb (cr_max rfl) vn_max boot_max T.n_max (acons (gv 5) anil)) anil))) (acons (gtup (acons gstr (acons (gv 6) anil))) (acons (gtup (acons gstr (acons (gsub (gcb call_len vn_len PySem.boot_len T.n_len (acons (gv 6) anil)) gint) anil))) anil)))))) anil))))))
  (sscons (sret gbl)
  ssnil)
  ssnil)
  (sscons (sif (tw (wor (tcmp op_gt v2_gt (gcb call_len vn_len PySem.boot_len T.n_len (acons (gF (flc [("k", 16)] rfl nd (blkOk_by (N := N_law) (sc := defScope s_law) (by decide +kernel)) (irng1 T.n_range (acons (gsub (gcb call_len vn_len PySem.boot_len T.n_len (acons (gv 6) anil)) gint) anil)) (fun _ _ _ _ _ => (hname 16 nd)) (fun _ _ _ _ _ => (tsone (tcmp op_gt v2_gt (gmul gint (gcb call_len vn_len PySem.boot_len T.n_len (acons (gix (gv 6) (gadd (gv 16) gint)) anil))) (gcb call_len vn_len PySem.boot_len T.n_len (acons (gix (gv 6) (gv 16)) anil))))) (fun _ _ _ _ _ => (gv 16)))) anil)) gint) (wor1 (tnot (tchain op_le v2_le op_le v2_le (gsub (gmul gint (gv 4)) gint) (gcb (cr_sum rfl) vn_sum boot_sum T.n_sum (acons (gv 5) anil)) (gfdiv (gmul (gv 4) (gadd (gv 4) gint)) gint))))))
  (sscons (sret gbl)
  ssnil)
  ssnil)
  (sscons (sset 7 nd (gcall c_L_next (hr.mono (by decide)) hgu (exB (L2N.takes_of rfl rfl rfl rfl)) (xsta 1 (acons (gv 4) anil))))
  (sscons (sif (tw (wor (tcmp (op_neD (u64 hu)) v2_ne (gcall c_L_told (hr.mono (by decide)) hgu (exB (L2N.takes_of rfl rfl rfl rfl)) (xdat (acons gint (acons (gv 3) (acons (gv 7) anil))))) (gtup (acons gstr (acons (gmod (gadd (gv 7) (gix (gv 5) (gv 7))) (gv 4)) anil)))) (wor1 (tcmp (op_neD (u64 hu)) v2_ne (gF (flc [("one", 19)] rfl nd (blkOk_by (N := N_law) (sc := defScope s_law) (by decide +kernel)) (ilist (glst (acons (gneg gint) (acons (gv 4) anil)))) (fun _ _ _ _ _ => (hname 19 nd)) (fun _ _ _ _ _ => tsnil) (fun _ _ _ _ _ => (gcall c_L_told (hr.mono (by decide)) hgu exq (xdat (acons gint (acons (gv 3) (acons (gv 19) anil)))))))) (gmul (glst (acons gstr anil)) gint)))))
  (sscons (sret gbl)
  ssnil)
  ssnil)
  (sscons (sset 8 nd (gadd gint (gcall c_L_next (hr.mono (by decide)) hgu (exB (L2N.takes_of rfl rfl rfl rfl)) (xsta 1 (acons (gix (glst (acons gint (acons gint anil))) (gct call_int1 vn_int PyProof.Rows.boot_int T.n_int (acons (gcmp (op_eqD (u64 hu)) v2_eq (gcall c_L_next (hr.mono (by decide)) hgu (exB (L2N.takes_of rfl rfl rfl rfl)) (xsta 1 (acons gint anil))) gint) anil))) anil)))))
  (sscons (sset 9 nd (gF (flc [("one", 19)] rfl nd (blkOk_by (N := N_law) (sc := defScope s_law) (by decide +kernel)) (ilist (gcall c_L_all (hr.mono (by decide)) hgu (exB (L2N.takes_of rfl rfl rfl rfl)) (xdat (acons (gv 8) anil)))) (fun _ _ _ _ _ => (hname 19 nd)) (fun _ _ _ _ _ => tsnil) (fun _ _ _ _ _ => (gcb (cr_sum rfl) vn_sum boot_sum T.n_sum (acons (gcall c_L_steps (hr.mono (by decide)) hgu exq (xdat (acons (gv 19) anil))) anil))))))
  (sscons (sset 10 nd (gct call_tuple_of vn_tupleOf PyProof.Rows.boot_tuple T.n_tuple (acons (gF (flc [("one", 19)] rfl nd (blkOk_by (N := N_law) (sc := defScope s_law) (by decide +kernel)) (ilist (gsortSet rfl T.n_sorted T.n_set (gv 9))) (fun _ _ _ _ _ => (hname 19 nd)) (fun _ _ _ _ _ => tsnil) (fun _ _ _ _ _ => (gtup (acons (gv 19) (acons (gcnt (gv 9) (gv 19)) anil)))))) anil)))
  (sscons (sset 11 nd (glst (acons (gcb (cr_max rfl) vn_max boot_max T.n_max (acons (gv 9) anil)) (acons (gcb (cr_min rfl) vn_min boot_min T.n_min (acons (gv 9) anil)) (acons (gcall c_L_terms (hr.mono (by decide)) hgu (exB (L2N.takes_of rfl rfl rfl rfl)) (xdat (acons (gcb (cr_sum rfl) vn_sum boot_sum T.n_sum (acons (gv 9) anil)) (acons (gcb call_len vn_len PySem.boot_len T.n_len (acons (gv 9) anil)) anil)))) (acons (gv 10) anil))))))
  (sscons (sif (tnot (tval (gcall c_L_same (hr.mono (by decide)) hgu (exB (L2N.takes_of rfl rfl rfl rfl)) (xdat (acons (gF (flc [("k", 16)] rfl nd (blkOk_by (N := N_law) (sc := defScope s_law) (by decide +kernel)) (ilist (glst (acons gint (acons gint (acons gint (acons gint anil)))))) (fun _ _ _ _ _ => (hname 16 nd)) (fun _ _ _ _ _ => tsnil) (fun _ _ _ _ _ => (gcall c_L_told (hr.mono (by decide)) hgu exq (xdat (acons (gv 16) (acons (gv 8) (acons gint anil)))))))) (acons (gF (flc [("one", 19)] rfl nd (blkOk_by (N := N_law) (sc := defScope s_law) (by decide +kernel)) (ilist (gv 11)) (fun _ _ _ _ _ => (hname 19 nd)) (fun _ _ _ _ _ => tsnil) (fun _ _ _ _ _ => (gtup (acons gstr (acons (gv 19) anil)))))) anil))))))
  (sscons (sret gbl)
  ssnil)
  ssnil)
  (sscons (sset 12 nd (gcall c_L_next (hr.mono (by decide)) hgu (exB (L2N.takes_of rfl rfl rfl rfl)) (xsta 1 (acons (gadd (gcb (cr_max rfl) vn_max boot_max T.n_max (acons (gv 9) anil)) gint) anil))))
  (sscons (sif (tcmp (op_neD (u64 hu)) v2_ne (gcall c_L_told (hr.mono (by decide)) hgu (exB (L2N.takes_of rfl rfl rfl rfl)) (xdat (acons gint (acons (gv 8) (acons (gv 12) anil))))) (gtup (acons gstr (acons (gcnt (gv 9) (gv 12)) anil))))
  (sscons (sret gbl)
  ssnil)
  ssnil)
  (sscons (sset 13 nd (gcall c_L_told (hr.mono (by decide)) hgu (exB (L2N.takes_of rfl rfl rfl rfl)) (xdat (acons gint (acons (gv 8) (acons (gv 12) anil))))))
  (sscons (sif (tcmp (op_neD (u64 hu)) v2_ne (gcmp (op_eqD (u64 hu)) v2_eq (gv 13) gstr) (gcmp (op_notInX hu) v2_in (gv 12) (gv 9)))
  (sscons (sret gbl)
  ssnil)
  ssnil)
  (sscons (sif (tw (wand (tcmp (op_neD (u64 hu)) v2_ne (gv 13) gstr) (wand1 (tw (wor (tcmp (op_neD (u64 hu)) v2_ne (gcb cr_sortedQ vn_sortedQ boot_sorted T.n_sorted (acons (gix (gv 13) gint) anil)) (gF (flrg rfl T.n_list T.n_range (gv 8)))) (wor (tcmp (op_neD (u64 hu)) v2_ne (gix (gix (gv 13) gint) gint) (gsub (gv 8) gint)) (wor1 (tcmp (op_neD (u64 hu)) v2_ne (gcb (cr_sum rfl) vn_sum boot_sum T.n_sum (acons (gcall c_L_steps (hr.mono (by decide)) hgu (exB (L2N.takes_of rfl rfl rfl rfl)) (xdat (acons (gix (gv 13) gint) anil))) anil)) (gv 12)))))))))
  (sscons (sret gbl)
  ssnil)
  ssnil)
  (sscons (sset 14 nd (gadd gint (gcall c_L_next (hr.mono (by decide)) hgu (exB (L2N.takes_of rfl rfl rfl rfl)) (xsta 1 (acons gint anil)))))
  (sscons (sset 12 nd (gadd (gsub (gmul gint (gv 14)) gint) (gmod (gadd (gmul (gcall c_L_next (hr.mono (by decide)) hgu (exB (L2N.takes_of rfl rfl rfl rfl)) (xsta 1 (acons gint anil))) gint) (gcall c_L_next (hr.mono (by decide)) hgu (exB (L2N.takes_of rfl rfl rfl rfl)) (xsta 1 (acons gint anil)))) (gadd (gfdiv (gmul (gsub (gv 14) gint) (gsub (gv 14) gint)) gint) gint))))
  (sscons (sset 13 nd (gcall c_L_told (hr.mono (by decide)) hgu (exB (L2N.takes_of rfl rfl rfl rfl)) (xdat (acons gint (acons (gv 14) (acons (gv 12) anil))))))
  (sscons (sif (tw (wor (tcmp (op_neD (u64 hu)) v2_ne (gix (gv 13) gint) gstr) (wor (tcmp (op_neD (u64 hu)) v2_ne (gcb cr_sortedQ vn_sortedQ boot_sorted T.n_sorted (acons (gix (gv 13) gint) anil)) (gF (flrg rfl T.n_list T.n_range (gv 14)))) (wor (tcmp (op_neD (u64 hu)) v2_ne (gix (gix (gv 13) gint) gint) (gsub (gv 14) gint)) (wor1 (tcmp (op_neD (u64 hu)) v2_ne (gcb (cr_sum rfl) vn_sum boot_sum T.n_sum (acons (gcall c_L_steps (hr.mono (by decide)) hgu (exB (L2N.takes_of rfl rfl rfl rfl)) (xdat (acons (gix (gv 13) gint) anil))) anil)) (gv 12)))))))
  (sscons (sret gbl)
  ssnil)
  ssnil)
  (sscons (sset 15 nd gint)
  (sscons (sfor (L2.passes_of rfl) rfl (irng2 T.n_range (acons gint (acons (gadd (gv 14) gint) anil))) (hname 16 nd)
  (sscons (sset 15 nd (gmul (gv 15) (gv 16)))
  ssnil))
  (sscons (sset 17 nd (gcall c_L_terms (hr.mono (by decide)) hgu (exB (L2N.takes_of rfl rfl rfl rfl)) (xdat (acons (gcb (cr_sum rfl) vn_sum boot_sum T.n_sum (acons (gF (flc [("k", 16)] rfl nd (blkOk_by (N := N_law) (sc := defScope s_law) (by decide +kernel)) (irng2 T.n_range (acons gint (acons (gadd (gv 14) gint) anil))) (fun _ _ _ _ _ => (hname 16 nd)) (fun _ _ _ _ _ => tsnil) (fun _ _ _ _ _ => (gmul (gv 14) (gfdiv (gv 15) (gv 16)))))) anil)) (acons (gv 15) anil)))))
  (sscons (sif (tnot (tval (gcall c_L_same (hr.mono (by decide)) hgu (exB (L2N.takes_of rfl rfl rfl rfl)) (xdat (acons (gF (flc [("k", 16)] rfl nd (blkOk_by (N := N_law) (sc := defScope s_law) (by decide +kernel)) (ilist (glst (acons gint (acons gint (acons gint anil))))) (fun _ _ _ _ _ => (hname 16 nd)) (fun _ _ _ _ _ => tsnil) (fun _ _ _ _ _ => (gcall c_L_told (hr.mono (by decide)) hgu exq (xdat (acons (gv 16) (acons (gv 14) (acons gint anil)))))))) (acons (glst (acons (gtup (acons gstr (acons (gfdiv (gmul (gv 14) (gadd (gv 14) gint)) gint) anil))) (acons (gtup (acons gstr (acons (gsub (gmul gint (gv 14)) gint) anil))) (acons (gtup (acons gstr (acons (gv 17) anil))) anil)))) anil))))))
  (sscons (sret gbl)
  ssnil)
  ssnil)
  (sscons (sif (tw (wor (tcmp (op_neD (u64 hu)) v2_ne (gcall c_L_told (hr.mono (by decide)) hgu (exB (L2N.takes_of rfl rfl rfl rfl)) (xdat (acons gint (acons (gv 8) (acons gint anil))))) (gtup (acons gstr (acons (gcb (cr_max rfl) vn_max boot_max T.n_max (acons (gF (flc [("one", 19)] rfl nd (blkOk_by (N := N_law) (sc := defScope s_law) (by decide +kernel)) (ilist (gcall c_L_all (hr.mono (by decide)) hgu (exB (L2N.takes_of rfl rfl rfl rfl)) (xdat (acons (gv 8) anil)))) (fun _ _ _ _ _ => (hname 19 nd)) (fun _ _ _ _ _ => tsnil) (fun _ _ _ _ _ => (gsub (gcb call_len vn_len PySem.boot_len T.n_len (acons (gcall c_L_rounds (hr.mono (by decide)) hgu exq (xdat (acons (gv 19) anil))) anil)) gint)))) anil)) anil)))) (wor1 (tcmp (op_neD (u64 hu)) v2_ne (gcall c_L_told (hr.mono (by decide)) hgu (exB (L2N.takes_of rfl rfl rfl rfl)) (xdat (acons gint (acons (gv 14) (acons gint anil))))) (gtup (acons gstr (acons (gix (glst (acons gint (acons gint (acons gint anil)))) (gadd (gct call_int1 vn_int PyProof.Rows.boot_int T.n_int (acons (gcmp op_gt v2_gt (gv 14) gint) anil)) (gct call_int1 vn_int PyProof.Rows.boot_int T.n_int (acons (gcmp op_gt v2_gt (gv 14) gint) anil)))) anil)))))))
  (sscons (sret gbl)
  ssnil)
  ssnil)
  (sscons (sif (tw (wor (tcmp (op_neD (u64 hu)) v2_ne (gadd (gF (flc [("k", 16)] rfl nd (blkOk_by (N := N_law) (sc := defScope s_law) (by decide +kernel)) (irng1 T.n_range (acons gint anil)) (fun _ _ _ _ _ => (hname 16 nd)) (fun _ _ _ _ _ => tsnil) (fun _ _ _ _ _ => (gcall c_L_told (hr.mono (by decide)) hgu exq (xdat (acons (gv 16) (acons (gtup anil) (acons gint anil)))))))) (gF (flc [("k", 16)] rfl nd (blkOk_by (N := N_law) (sc := defScope s_law) (by decide +kernel)) (irng1 T.n_range (acons gint anil)) (fun _ _ _ _ _ => (hname 16 nd)) (fun _ _ _ _ _ => tsnil) (fun _ _ _ _ _ => (gcall c_L_told (hr.mono (by decide)) hgu exq (xdat (acons (gv 16) (acons (gtup (acons gint (acons gint anil))) (acons gint anil))))))))) (gmul (glst (acons gstr anil)) gint)) (wor1 (tcmp (op_neD (u64 hu)) v2_ne (gF (flc [("one", 19)] rfl nd (blkOk_by (N := N_law) (sc := defScope s_law) (by decide +kernel)) (ilist (glst (acons (gtup anil) (acons (gtup (acons gint (acons gint (acons gint anil)))) anil)))) (fun _ _ _ _ _ => (hname 19 nd)) (fun _ _ _ _ _ => tsnil) (fun _ _ _ _ _ => (gcall c_L_told (hr.mono (by decide)) hgu exq (xdat (acons gint (acons (gv 19) (acons gint anil)))))))) (gmul (glst (acons gstr anil)) gint)))))
  (sscons (sret gbl)
  ssnil)
  ssnil)
  (sscons (sif (tcmp (op_neD (u64 hu)) v2_ne (gadd (gF (flc [("k", 16)] rfl nd (blkOk_by (N := N_law) (sc := defScope s_law) (by decide +kernel)) (irng2 T.n_range (acons gint (acons gint anil))) (fun _ _ _ _ _ => (hname 16 nd)) (fun _ _ _ _ _ => tsnil) (fun _ _ _ _ _ => (gcall c_L_told (hr.mono (by decide)) hgu exq (xdat (acons (gv 16) (acons gint (acons gint anil)))))))) (gF (flc [("k", 16)] rfl nd (blkOk_by (N := N_law) (sc := defScope s_law) (by decide +kernel)) (irng2 T.n_range (acons gint (acons gint anil))) (fun _ _ _ _ _ => (hname 16 nd)) (fun _ _ _ _ _ => tsnil) (fun _ _ _ _ _ => (gcall c_L_told (hr.mono (by decide)) hgu exq (xdat (acons (gv 16) (acons (gneg gint) (acons gint anil))))))))) (gmul (glst (acons gstr anil)) gint))
  (sscons (sret gbl)
  ssnil)
  ssnil)
  (sscons (sset 18 nd (gtrg rfl T.n_tuple T.n_range gint))
  (sscons (sif (tcmp (op_neD (u64 hu)) v2_ne (gadd (gadd (gadd (gF (flc [("k", 16)] rfl nd (blkOk_by (N := N_law) (sc := defScope s_law) (by decide +kernel)) (ilist (glst (acons gint (acons gint (acons gint (acons gint (acons gint (acons gint anil)))))))) (fun _ _ _ _ _ => (hname 16 nd)) (fun _ _ _ _ _ => tsnil) (fun _ _ _ _ _ => (gcall c_L_told (hr.mono (by decide)) hgu exq (xdat (acons (gv 16) (acons (gv 18) (acons gint anil)))))))) (gF (flc [("k", 16)] rfl nd (blkOk_by (N := N_law) (sc := defScope s_law) (by decide +kernel)) (irng1 T.n_range (acons gint anil)) (fun _ _ _ _ _ => (hname 16 nd)) (fun _ _ _ _ _ => tsnil) (fun _ _ _ _ _ => (gcall c_L_told (hr.mono (by decide)) hgu exq (xdat (acons (gv 16) (acons (gtup (acons gint anil)) (acons gint anil))))))))) (gF (flc [("k", 16)] rfl nd (blkOk_by (N := N_law) (sc := defScope s_law) (by decide +kernel)) (ilist (glst (acons gint (acons gint (acons gint (acons gint (acons gint anil))))))) (fun _ _ _ _ _ => (hname 16 nd)) (fun _ _ _ _ _ => tsnil) (fun _ _ _ _ _ => (gcall c_L_told (hr.mono (by decide)) hgu exq (xdat (acons (gv 16) (acons gint (acons gint anil))))))))) (gF (flc [("k", 16)] rfl nd (blkOk_by (N := N_law) (sc := defScope s_law) (by decide +kernel)) (ilist (glst (acons gint (acons gint anil)))) (fun _ _ _ _ _ => (hname 16 nd)) (fun _ _ _ _ _ => tsnil) (fun _ _ _ _ _ => (gcall c_L_told (hr.mono (by decide)) hgu exq (xdat (acons (gv 16) (acons gint (acons gint anil))))))))) (gmul (glst (acons gstr anil)) gint))
  (sscons (sret gbl)
  ssnil)
  ssnil)
  ssnil))))))))))))))))))))))))))))))))
  (sscons (sret (gcmp (op_eqD (u64 hu)) v2_eq (gtup (acons (gglobI T.c_MAX_RING) (acons (gglobI T.c_MAX_ALL) (acons (gglobI T.c_MAX_VALUE) anil)))) (gtup (acons gint (acons gint (acons gint anil))))))
  ssnil))
  exact pss_cons (ps_set (i := 1) nd rfl (by first | exact Or.inl rfl | exact Or.inr rfl) (pe_lst (pa_cons (pe_callG FS (hr.mono (by decide)) hgu rfl gS kS bS (exB (L2N.takes_of rfl rfl rfl rfl)) (pa_cons (pv 0) pa_nil)) (pa_cons pe_int pa_nil)))) (pss_ex pr)
end
end K50

set_option Elab.async false
set_option linter.all false
set_option maxRecDepth 100000
set_option maxHeartbeats 4000000
/-! K50m: how far numbers go, in plain Lean. -/
namespace K50
open PySem PySem.Spec L2 DL
def gI (row : List Int) (i : Nat) : Int := row.getD i 0
def farF (row : List Int) (n i : Nat) (one : Int) : Nat → Nat → Nat
  | 0, far => far
  | k + 1, far => if far < n ∧ gI row ((i + far) % n) < one then farF row n i one k (far + 1) else far
def farL (row : List Int) (i : Nat) : Nat := farF row row.length i (gI row i) row.length 1
def stepsL (row : List Int) : List Nat := (List.range row.length).map (farL row)
theorem farF_spec (row : List Int) (n i : Nat) (one : Int) : ∀ (k far : Nat), far ≤ n → n < far + k + 1 → 1 ≤ n → far ≤ farF row n i one k far ∧ farF row n i one k far ≤ n ∧
    (∀ j, far ≤ j → j < farF row n i one k far → gI row ((i + j) % n) < one) ∧ (farF row n i one k far < n → ¬ gI row ((i + farF row n i one k far) % n) < one)
  | 0, far, h1, h2, h3 => ⟨Nat.le_refl _, h1, fun j a b => by unfold farF at b; omega, fun h => by unfold farF at h; omega⟩
  | k + 1, far, h1, h2, h3 => by
    unfold farF
    by_cases hc : far < n ∧ gI row ((i + far) % n) < one
    · rw [if_pos hc]
      obtain ⟨a, b, c, d⟩ := farF_spec row n i one k (far + 1) (by omega) (by omega) h3
      refine ⟨by omega, b, fun j hj hj2 => ?_, d⟩
      by_cases e : j = far
      · rw [e]; exact hc.2
      · exact c j (by omega) hj2
    · rw [if_neg hc]
      exact ⟨Nat.le_refl _, h1, fun j a b => by omega, fun h z => hc ⟨h, z⟩⟩
theorem farL_spec {row : List Int} {i : Nat} (h : 1 ≤ row.length) : 1 ≤ farL row i ∧ farL row i ≤ row.length ∧ (∀ j, 1 ≤ j → j < farL row i → gI row ((i + j) % row.length) < gI row i) ∧ (farL row i < row.length → ¬ gI row ((i + farL row i) % row.length) < gI row i) :=
  farF_spec row row.length i (gI row i) row.length 1 h (by omega) h
/-- it goes on behind t + 1 just if the next one is less -/
theorem farL_more {row : List Int} {i t : Nat} (h : 1 ≤ row.length) (ht : t < farL row i) : t + 1 < farL row i ↔ t + 1 < row.length ∧ gI row ((i + (t + 1)) % row.length) < gI row i := by
  obtain ⟨a, b, c, d⟩ := farL_spec (i := i) h
  constructor
  · intro z
    exact ⟨by omega, c (t + 1) (by omega) z⟩
  · rintro ⟨z1, z2⟩
    refine Classical.byContradiction fun z => ?_
    have e : farL row i = t + 1 := by omega
    rw [e] at d
    exact d z1 z2
theorem steps_len (row : List Int) : (stepsL row).length = row.length := by unfold stepsL; rw [List.length_map, List.length_range]
/-! bounds of the sum -/
theorem gI_mem {row : List Int} {i : Nat} (h : i < row.length) : gI row i ∈ row := by
  unfold gI
  rw [List.getD_eq_getElem?_getD, List.getElem?_eq_getElem h]
  exact List.getElem_mem h
theorem gI_inj {row : List Int} (hn : row.Nodup) {i j : Nat} (hi : i < row.length) (hj : j < row.length) (h : gI row i = gI row j) : i = j := by
  unfold gI at h
  rw [List.getD_eq_getElem?_getD, List.getD_eq_getElem?_getD, List.getElem?_eq_getElem hi, List.getElem?_eq_getElem hj] at h
  have hp := List.pairwise_iff_getElem.mp hn
  have h : row[i] = row[j] := h
  rcases Nat.lt_trichotomy i j with z | z | z
  · exact (hp i j hi hj z h).elim
  · exact z
  · exact (hp j i hj hi z h.symm).elim
/-- it goes no farther than there are numbers up to it -/
theorem farL_rank {row : List Int} (hn : row.Nodup) {i : Nat} (hi : i < row.length) : farL row i ≤ row.countP fun y => decide (y ≤ gI row i) := by
  obtain ⟨a, b, c, d⟩ := farL_spec (row := row) (i := i) (by omega)
  let vs : List Int := (List.range (farL row i)).map fun j => gI row ((i + j) % row.length)
  have hlt : ∀ j, (i + j) % row.length < row.length := fun j => Nat.mod_lt _ (by omega)
  have hvn : vs.Nodup := by
    show ((List.range (farL row i)).map _).Nodup
    rw [List.nodup_iff_pairwise_ne, List.pairwise_map]
    refine (List.pairwise_lt_range (n := farL row i)).imp_of_mem fun {x y} hx hy hxy e => ?_
    have hx := List.mem_range.mp hx
    have hy := List.mem_range.mp hy
    have := gI_inj hn (hlt x) (hlt y) e
    by_cases h1 : i + x < row.length
    · rw [Nat.mod_eq_of_lt h1] at this
      by_cases h2 : i + y < row.length
      · rw [Nat.mod_eq_of_lt h2] at this
        omega
      · rw [Nat.mod_eq_sub_mod (by omega), Nat.mod_eq_of_lt (by omega)] at this
        omega
    · rw [Nat.mod_eq_sub_mod (by omega), Nat.mod_eq_of_lt (by omega)] at this
      by_cases h2 : i + y < row.length
      · omega
      · rw [Nat.mod_eq_sub_mod (by omega), Nat.mod_eq_of_lt (by omega)] at this
        omega
  have hsub : ∀ v ∈ vs, v ∈ row.filter fun y => decide (y ≤ gI row i) := by
    intro v hv
    obtain ⟨j, hj, rfl⟩ := List.mem_map.mp hv
    have hj := List.mem_range.mp hj
    refine List.mem_filter.mpr ⟨gI_mem (hlt j), decide_eq_true ?_⟩
    by_cases e : j = 0
    · subst e
      show gI row ((i + 0) % row.length) ≤ gI row i
      rw [Nat.add_zero, Nat.mod_eq_of_lt hi]
      exact Int.le_refl _
    · exact Int.le_of_lt (c j (by omega) hj)
  have := nodup_le hvn hsub
  rw [List.length_map, List.length_range] at this
  rw [List.countP_eq_length_filter]
  exact this
theorem count_both {a : Int} : ∀ {r : List Int}, a ∉ r → r.countP (fun y => decide (y ≤ a)) + r.countP (fun y => decide (a ≤ y)) = r.length
  | [], _ => rfl
  | y :: r, h => by
    rw [List.mem_cons] at h
    have ih := count_both (r := r) fun z => h (.inr z)
    have hy : y ≠ a := fun z => h (.inl z.symm)
    rw [List.countP_cons, List.countP_cons, List.length_cons]
    by_cases hc : y ≤ a
    · have h2 : ¬ a ≤ y := by omega
      simp only [hc, h2, decide_true, decide_false, if_true]
      simp
      omega
    · have h2 : a ≤ y := by omega
      simp only [hc, h2, decide_true, decide_false, if_true]
      simp
      omega
/-- all numbers up to each, together -/
theorem rank_sum : ∀ {row : List Int}, row.Nodup → (row.map fun x => row.countP fun y => decide (y ≤ x)).sum * 2 = row.length * (row.length + 1)
  | [], _ => rfl
  | a :: r, h => by
    obtain ⟨h1, h2⟩ := List.nodup_cons.mp h
    have ih := rank_sum h2
    have e : (r.map fun x => (a :: r).countP fun y => decide (y ≤ x)).sum = r.countP (fun x => decide (a ≤ x)) + (r.map fun x => r.countP fun y => decide (y ≤ x)).sum := by
      have : ∀ l : List Int, (l.map fun x => (a :: r).countP fun y => decide (y ≤ x)).sum = l.countP (fun x => decide (a ≤ x)) + (l.map fun x => r.countP fun y => decide (y ≤ x)).sum := by
        intro l
        induction l with
        | nil => rfl
        | cons x l ih =>
          rw [List.map_cons, List.sum_cons, List.map_cons, List.sum_cons, ih, List.countP_cons, List.countP_cons]
          by_cases hx : a ≤ x
          · simp only [hx, decide_true, if_true]
            omega
          · simp only [hx, decide_false]
            simp
            omega
      exact this r
    have hb := count_both h1
    rw [List.map_cons, List.sum_cons, e, List.countP_cons]
    simp only [Int.le_refl, decide_true, if_true, List.length_cons]
    have : (r.length + 1) * (r.length + 1 + 1) = r.length * (r.length + 1) + 2 * (r.length + 1) := by
      rw [Nat.add_mul, Nat.one_mul, Nat.mul_add r.length]
      omega
    rw [this]
    omega
theorem sum_le_sum {α : Type} {f g : α → Nat} : ∀ {l : List α}, (∀ x ∈ l, f x ≤ g x) → (l.map f).sum ≤ (l.map g).sum
  | [], _ => Nat.le_refl _
  | x :: r, h => by
    rw [List.map_cons, List.map_cons, List.sum_cons, List.sum_cons]
    exact Nat.add_le_add (h x List.mem_cons_self) (sum_le_sum fun y hy => h y (List.mem_cons_of_mem _ hy))
theorem range_gI (row : List Int) : (List.range row.length).map (gI row) = row := by
  apply List.ext_getElem?
  intro i
  rw [List.getElem?_map]
  by_cases h : i < row.length
  · rw [List.getElem?_range h, List.getElem?_eq_getElem h]
    unfold gI
    simp [h]
  · rw [List.getElem?_eq_none (by simp; omega), List.getElem?_eq_none (by omega)]
    rfl
theorem map_gI {β : Type} (row : List Int) (f : Int → β) : ((List.range row.length).map fun i => f (gI row i)) = row.map f := by
  conv => rhs; rw [← range_gI row]
  rw [List.map_map]
  rfl
theorem steps_upper {row : List Int} (hn : row.Nodup) : (stepsL row).sum ≤ row.length * (row.length + 1) / 2 := by
  have h1 : (stepsL row).sum ≤ ((List.range row.length).map fun i => row.countP fun y => decide (y ≤ gI row i)).sum := sum_le_sum fun i hi => farL_rank hn (List.mem_range.mp hi)
  have h2 : ((List.range row.length).map fun i => row.countP fun y => decide (y ≤ gI row i)) = row.map fun x => row.countP fun y => decide (y ≤ x) := map_gI row fun x => row.countP fun y => decide (y ≤ x)
  rw [h2] at h1
  have h3 := rank_sum hn
  omega
theorem exists_max : ∀ {row : List Int}, row ≠ [] → ∃ x ∈ row, ∀ y ∈ row, y ≤ x
  | [], h => (h rfl).elim
  | [a], _ => ⟨a, List.mem_cons_self, fun y hy => by rw [List.mem_singleton.mp hy]; exact Int.le_refl _⟩
  | a :: b :: r, _ => by
    obtain ⟨x, hx, h⟩ := exists_max (row := b :: r) (by simp)
    by_cases hc : x ≤ a
    · refine ⟨a, List.mem_cons_self, fun y hy => ?_⟩
      rcases List.mem_cons.mp hy with rfl | hy
      · exact Int.le_refl _
      · exact Int.le_trans (h y hy) hc
    · refine ⟨x, List.mem_cons_of_mem _ hx, fun y hy => ?_⟩
      rcases List.mem_cons.mp hy with rfl | hy
      · omega
      · exact h y hy
theorem farL_top {row : List Int} (hn : row.Nodup) {i : Nat} (hi : i < row.length) (h : ∀ y ∈ row, y ≤ gI row i) : farL row i = row.length := by
  obtain ⟨a, b, c, d⟩ := farL_spec (row := row) (i := i) (by omega)
  refine Classical.byContradiction fun z => ?_
  have hlt : farL row i < row.length := by omega
  have hm : (i + farL row i) % row.length < row.length := Nat.mod_lt _ (by omega)
  have h1 := h _ (gI_mem hm)
  have h2 := d hlt
  have h3 := gI_inj hn hm hi (by omega)
  by_cases h4 : i + farL row i < row.length
  · rw [Nat.mod_eq_of_lt h4] at h3
    omega
  · rw [Nat.mod_eq_sub_mod (by omega), Nat.mod_eq_of_lt (by omega)] at h3
    omega
theorem sum_ge {α : Type} {f : α → Nat} : ∀ {l : List α} {i : α}, (∀ x ∈ l, 1 ≤ f x) → i ∈ l → l.length + f i ≤ (l.map f).sum + 1
  | [], i, _, h => by cases h
  | x :: r, i, h, hi => by
    rw [List.map_cons, List.sum_cons, List.length_cons]
    have hx := h x List.mem_cons_self
    rcases List.mem_cons.mp hi with e | hi
    · subst e
      have : ∀ {l : List α}, (∀ x ∈ l, 1 ≤ f x) → l.length ≤ (l.map f).sum := by
        intro l
        induction l with
        | nil => intro _; exact Nat.le_refl _
        | cons y l ih =>
          intro hl
          have h1 := ih fun z hz => hl z (List.mem_cons_of_mem _ hz)
          have h2 := hl y List.mem_cons_self
          rw [List.map_cons, List.sum_cons, List.length_cons]
          omega
      have := this (l := r) fun y hy => h y (List.mem_cons_of_mem _ hy)
      omega
    · have := sum_ge (fun y hy => h y (List.mem_cons_of_mem _ hy)) hi
      omega
theorem steps_lower {row : List Int} (hn : row.Nodup) (h0 : row ≠ []) : 2 * row.length - 1 ≤ (stepsL row).sum := by
  obtain ⟨x, hx, h⟩ := exists_max h0
  obtain ⟨i, hi, e⟩ := List.getElem_of_mem hx
  have eg : gI row i = x := by
    unfold gI
    rw [List.getD_eq_getElem?_getD, List.getElem?_eq_getElem hi, e]
    rfl
  have ht := farL_top hn hi (by rw [eg]; exact h)
  have := sum_ge (l := List.range row.length) (f := farL row) (i := i) (fun y _ => (farL_spec (i := y) (by omega)).1) (List.mem_range.mpr hi)
  rw [ht, List.length_range] at this
  show _ ≤ ((List.range row.length).map (farL row)).sum
  omega
theorem farL_uniq {row : List Int} {i f : Nat} (h1 : 1 ≤ f) (h2 : f ≤ row.length) (h3 : ∀ j, 1 ≤ j → j < f → gI row ((i + j) % row.length) < gI row i) (h4 : f < row.length → ¬ gI row ((i + f) % row.length) < gI row i) : farL row i = f := by
  obtain ⟨a, b, c, d⟩ := farL_spec (row := row) (i := i) (by omega)
  rcases Nat.lt_trichotomy (farL row i) f with z | z | z
  · exact (d (by omega) (h3 _ a z)).elim
  · exact z
  · exact (h4 (by omega) (c _ h1 z)).elim
/-! what is left round by round -/
def keepR (row : List Int) (k : Nat) : Bool := decide (gI row ((k + (row.length - 1)) % row.length) < gI row k) && decide (gI row ((k + 1) % row.length) < gI row k)
def roundL (row : List Int) : List Int := ((List.range row.length).filter (keepR row)).map (gI row)
def roundsF : Nat → List Int → List (List Int)
  | 0, row => [row]
  | k + 1, row => if 1 < row.length then row :: roundsF k (roundL row) else [row]
theorem shift_perm (n : Nat) (h : 1 ≤ n) : ((List.range n).map fun k => (k + 1) % n).Perm (List.range n) := by
  obtain ⟨m, rfl⟩ : ∃ m, n = m + 1 := ⟨n - 1, by omega⟩
  have e1 : (List.range (m + 1)).map (fun k => (k + 1) % (m + 1)) = (List.range m).map Nat.succ ++ [0] := by
    rw [List.range_succ, List.map_append]
    congr 1
    · apply List.map_congr_left
      intro k hk
      have := List.mem_range.mp hk
      exact Nat.mod_eq_of_lt (by omega)
    · show [(m + 1) % (m + 1)] = [0]
      rw [Nat.mod_self]
  rw [e1, List.range_succ_eq_map]
  exact List.perm_append_comm (l₁ := (List.range m).map Nat.succ) (l₂ := [0])
theorem keep_half (row : List Int) : 2 * (roundL row).length ≤ row.length := by
  unfold roundL
  rw [List.length_map]
  by_cases h0 : row.length = 0
  · rw [h0]
    simp
  · have hc : (List.range row.length).countP (keepR row) = ((List.range row.length).map fun k => (k + 1) % row.length).countP (keepR row) := (List.Perm.countP_eq _ (shift_perm row.length (by omega))).symm
    rw [List.countP_map] at hc
    have hd : ∀ l : List Nat, (∀ k ∈ l, k < row.length) → l.countP (keepR row) + l.countP (keepR row ∘ fun k => (k + 1) % row.length) ≤ l.length := by
      intro l
      induction l with
      | nil => intro _; exact Nat.le_refl _
      | cons k r ih =>
        intro hl
        have h1 := ih fun y hy => hl y (List.mem_cons_of_mem _ hy)
        have hk := hl k List.mem_cons_self
        have h2 : ¬ (keepR row k = true ∧ (keepR row ∘ fun k => (k + 1) % row.length) k = true) := by
          rintro ⟨x, y⟩
          have y : keepR row ((k + 1) % row.length) = true := y
          unfold keepR at x y
          rw [Bool.and_eq_true] at x y
          have x2 := of_decide_eq_true x.2
          have y1 := of_decide_eq_true y.1
          have e : ((k + 1) % row.length + (row.length - 1)) % row.length = k := by
            rw [Nat.mod_add_mod]
            have : k + 1 + (row.length - 1) = k + row.length := by omega
            rw [this, Nat.add_mod_right]
            exact Nat.mod_eq_of_lt hk
          rw [e] at y1
          omega
        rw [List.countP_cons, List.countP_cons, List.length_cons]
        cases hx : keepR row k with
        | false =>
          cases hy : (keepR row ∘ fun k => (k + 1) % row.length) k with
          | false => simp; omega
          | true => simp; omega
        | true =>
          cases hy : (keepR row ∘ fun k => (k + 1) % row.length) k with
          | false => simp; omega
          | true => exact (h2 ⟨hx, hy⟩).elim
    have := hd (List.range row.length) fun k hk => List.mem_range.mp hk
    rw [← hc, List.length_range, List.countP_eq_length_filter] at this
    omega
theorem rounds_half : ∀ (k : Nat) (row : List Int) (i : Nat) (a b : List Int), (roundsF k row)[i]? = some a → (roundsF k row)[i + 1]? = some b → 2 * b.length ≤ a.length
  | 0, row, i, a, b, h1, h2 => by
    unfold roundsF at h2
    simp at h2
  | k + 1, row, i, a, b, h1, h2 => by
    unfold roundsF at h1 h2
    split at h1
    · rename_i hc
      rw [if_pos hc] at h2
      cases i with
      | zero =>
        have e1 : a = row := by simpa using h1.symm
        have e2 : b = roundL row := by
          have h2 : (roundsF k (roundL row))[0]? = some b := by simpa using h2
          cases k with
          | zero =>
            unfold roundsF at h2
            simpa using h2.symm
          | succ k =>
            unfold roundsF at h2
            split at h2
            · simpa using h2.symm
            · simpa using h2.symm
        rw [e1, e2]
        exact keep_half row
      | succ i =>
        exact rounds_half k (roundL row) i a b (by simpa using h1) (by simpa using h2)
    · rename_i hc
      rw [if_neg hc] at h2
      simp at h2
end K50

set_option Elab.async false
set_option linter.all false
set_option maxRecDepth 100000
set_option maxHeartbeats 4000000
/-! K50n: rings with so many messages. -/
namespace K50
open PySem PySem.Spec L2 DL
def takesF : Nat → Nat → List Nat
  | 0, _ => []
  | s + 1, left => min left s :: takesF s (left - min left s)
def popsF : List Nat → List Int → List Int
  | [], _ => []
  | t :: ts, free => free.getD t 0 :: popsF ts (free.eraseIdx t)
def builtL (n : Nat) (count : Nat) : List Int := ((n : Int) - 1) :: popsF (takesF (n - 1) (count - (2 * n - 1))) ((List.range (n - 1)).map fun k : Nat => (k : Int))
theorem takes_len : ∀ s left, (takesF s left).length = s
  | 0, _ => rfl
  | s + 1, left => by unfold takesF; rw [List.length_cons, takes_len]
theorem takes_zero : ∀ s, takesF s 0 = List.replicate s 0
  | 0 => rfl
  | s + 1 => by
    unfold takesF
    rw [Nat.zero_min, Nat.zero_sub, takes_zero, List.replicate_succ]
/-- the greatest sum of takes -/
def tri : Nat → Nat
  | 0 => 0
  | s + 1 => s + tri s
theorem takes_sum : ∀ s left, left ≤ tri s → (takesF s left).sum = left
  | 0, left, h => by
    have : left = 0 := Nat.le_zero.mp h
    rw [this]; rfl
  | s + 1, left, h => by
    unfold tri at h
    unfold takesF
    rw [List.sum_cons, takes_sum s _ (by omega)]
    omega
theorem cons_erase : ∀ (l : List Int) (i : Nat) (h : i < l.length), (l[i] :: l.eraseIdx i).Perm l
  | x :: r, 0, _ => .refl _
  | x :: r, i + 1, h => (List.Perm.swap x _ _).trans ((cons_erase r i (by rw [List.length_cons] at h; omega)).cons x)
theorem pops_perm : ∀ (s left : Nat) (free : List Int), free.length = s → (popsF (takesF s left) free).Perm free
  | 0, left, free, h => by
    have := List.length_eq_zero_iff.mp h
    subst this
    exact .refl _
  | s + 1, left, free, h => by
    unfold takesF popsF
    have ht : min left s < free.length := by omega
    have h1 := pops_perm s (left - min left s) (free.eraseIdx (min left s)) (by rw [List.length_eraseIdx_of_lt ht]; omega)
    have e : free.getD (min left s) 0 = free[min left s] := by
      rw [List.getD_eq_getElem?_getD, List.getElem?_eq_getElem ht]
      rfl
    rw [e]
    refine (h1.cons _).trans ?_
    exact cons_erase _ _ ht
/-! how far each goes: one more than those before the first greater one -/
def lead (x : Int) : List Int → Nat
  | [] => 0
  | y :: r => if y < x then lead x r + 1 else 0
def leads : List Int → List Nat
  | [] => []
  | x :: r => lead x r :: leads r
theorem lead_le (x : Int) : ∀ r, lead x r ≤ r.length
  | [] => Nat.le_refl _
  | y :: r => by
    unfold lead
    have := lead_le x r
    split
    · rw [List.length_cons]; omega
    · exact Nat.zero_le _
theorem lead_less (x : Int) : ∀ (r : List Int) (j : Nat), j < lead x r → r.getD j 0 < x
  | [], j, h => by cases h
  | y :: r, j, h => by
    unfold lead at h
    split at h
    · rename_i hy
      cases j with
      | zero => exact hy
      | succ j => exact lead_less x r j (by omega)
    · cases h
theorem lead_stop (x : Int) : ∀ (r : List Int), lead x r < r.length → ¬ r.getD (lead x r) 0 < x
  | [], h => by cases h
  | y :: r, h => by
    unfold lead at h ⊢
    split
    · rename_i hy
      rw [if_pos hy] at h
      exact lead_stop x r (by rw [List.length_cons] at h; omega)
    · rename_i hy
      exact hy
theorem lead_all (x : Int) : ∀ (r : List Int), (∀ y ∈ r, y < x) → lead x r = r.length
  | [], _ => rfl
  | y :: r, h => by
    unfold lead
    rw [if_pos (h y List.mem_cons_self), lead_all x r fun z hz => h z (List.mem_cons_of_mem _ hz)]
    rfl
theorem lead_app (x : Int) : ∀ (a b : List Int), (∀ y ∈ a, y < x) → lead x (a ++ b) = a.length + lead x b
  | [], b, _ => by simp
  | y :: a, b, h => by
    show (if y < x then lead x (a ++ b) + 1 else 0) = _
    rw [if_pos (h y List.mem_cons_self), lead_app x a b fun z hz => h z (List.mem_cons_of_mem _ hz), List.length_cons]
    omega
/-- zeros alone: the numbers ascending -/
theorem pops_zero : ∀ free : List Int, popsF (List.replicate free.length 0) free = free
  | [] => rfl
  | x :: r => by
    rw [List.length_cons, List.replicate_succ]
    unfold popsF
    show x :: popsF (List.replicate r.length 0) r = _
    rw [pops_zero r]
theorem leads_asc : ∀ free : List Int, free.Pairwise (· < ·) → leads free = List.replicate free.length 0
  | [], _ => rfl
  | x :: r, h => by
    obtain ⟨h1, h2⟩ := List.pairwise_cons.mp h
    unfold leads
    rw [leads_asc r h2, List.length_cons, List.replicate_succ]
    congr 1
    cases r with
    | nil => rfl
    | cons y r =>
      unfold lead
      have := h1 y List.mem_cons_self
      rw [if_neg (by omega)]
theorem leads_pops : ∀ (s left : Nat) (free : List Int), free.length = s → free.Pairwise (· < ·) → leads (popsF (takesF s left) free) = takesF s left
  | 0, left, free, h, _ => rfl
  | s + 1, left, free, h, hs => by
    have ht : min left s < free.length := by omega
    have hs2 : (free.eraseIdx (min left s)).Pairwise (· < ·) := hs.sublist (List.eraseIdx_sublist _ _)
    have hl2 : (free.eraseIdx (min left s)).length = s := by rw [List.length_eraseIdx_of_lt ht]; omega
    have ih := leads_pops s (left - min left s) (free.eraseIdx (min left s)) hl2 hs2
    unfold takesF popsF
    show lead _ _ :: leads _ = _
    rw [ih]
    congr 1
    have e : free.getD (min left s) 0 = free[min left s] := by
      rw [List.getD_eq_getElem?_getD, List.getElem?_eq_getElem ht]
      rfl
    have hp := List.pairwise_iff_getElem.mp hs
    rw [e]
    by_cases hc : left < s
    · have e1 : min left s = left := by omega
      have e2 : left - min left s = 0 := by omega
      rw [e2, takes_zero]
      have hz : popsF (List.replicate s 0) (free.eraseIdx (min left s)) = free.eraseIdx (min left s) := by
        have := pops_zero (free.eraseIdx (min left s))
        rw [hl2] at this
        exact this
      rw [hz, List.eraseIdx_eq_take_drop_succ, lead_app]
      · rw [List.length_take]
        have hd : min left s + 1 < free.length := by omega
        have : free.drop (min left s + 1) = free[min left s + 1] :: free.drop (min left s + 1 + 1) := List.drop_eq_getElem_cons hd
        rw [this]
        unfold lead
        have := hp (min left s) (min left s + 1) ht hd (by omega)
        rw [if_neg (by omega)]
        omega
      · intro y hy
        obtain ⟨j, hj, rfl⟩ := List.getElem_of_mem hy
        rw [List.length_take] at hj
        rw [List.getElem_take]
        exact hp j (min left s) (by omega) ht (by omega)
    · have e1 : min left s = s := by omega
      have hperm := pops_perm s (left - min left s) (free.eraseIdx (min left s)) hl2
      rw [lead_all _ _ fun y hy => ?_, hperm.length_eq, hl2, e1]
      have hy2 := hperm.mem_iff.mp hy
      rw [List.eraseIdx_eq_take_drop_succ] at hy2
      rcases List.mem_append.mp hy2 with hy2 | hy2
      · obtain ⟨j, hj, rfl⟩ := List.getElem_of_mem hy2
        rw [List.length_take] at hj
        rw [List.getElem_take]
        exact hp j (min left s) (by omega) ht (by omega)
      · rw [List.drop_eq_nil_of_le (by omega)] at hy2
        cases hy2
/-- a ring whose first number is above all others -/
theorem steps_top (top : Int) (xs : List Int) (h : ∀ x ∈ xs, x < top) : (stepsL (top :: xs)).sum = (xs.length + 1) + ((leads xs).sum + xs.length) := by
  let row := top :: xs
  have hn : row.length = xs.length + 1 := rfl
  have g0 : gI row 0 = top := rfl
  have gs : ∀ i, gI row (i + 1) = xs.getD i 0 := fun i => rfl
  have f0 : farL row 0 = xs.length + 1 := by
    refine farL_uniq (by omega) (Nat.le_refl _) (fun j h1 h2 => ?_) (fun z => absurd z (by show ¬ xs.length + 1 < xs.length + 1; omega))
    have : (0 + j) % row.length = j := by rw [Nat.zero_add, Nat.mod_eq_of_lt (by omega)]
    rw [this, g0]
    obtain ⟨k, rfl⟩ : ∃ k, j = k + 1 := ⟨j - 1, by omega⟩
    rw [gs]
    have hk : k < xs.length := by omega
    rw [List.getD_eq_getElem?_getD, List.getElem?_eq_getElem hk]
    exact h _ (List.getElem_mem hk)
  have fs : ∀ (i : Nat) (a : List Int) (x : Int) (r : List Int), xs = a ++ x :: r → a.length = i → farL row (i + 1) = lead x r + 1 := by
    intro i a x r he hi
    have hl := lead_le x r
    have hxl : xs.length = i + 1 + r.length := by rw [he, List.length_append, List.length_cons]; omega
    have gx : gI row (i + 1) = x := by
      rw [gs, he]
      simp [← hi]
    have gr : ∀ j, gI row (i + 1 + (j + 1)) = r.getD j 0 := by
      intro j
      have : i + 1 + (j + 1) = (i + 1 + j) + 1 := by omega
      rw [this, gs, he]
      simp only [List.getD_eq_getElem?_getD]
      rw [List.getElem?_append_right (by omega)]
      have e : i + 1 + j - a.length = j + 1 := by omega
      rw [e]
      rfl
    refine farL_uniq (by omega) (by omega) (fun j h1 h2 => ?_) (fun z => ?_)
    · rw [Nat.mod_eq_of_lt (by omega), gx]
      obtain ⟨k, rfl⟩ : ∃ k, j = k + 1 := ⟨j - 1, by omega⟩
      rw [gr]
      exact lead_less x r k (by omega)
    · by_cases hc : lead x r < r.length
      · rw [Nat.mod_eq_of_lt (by omega), gx, gr]
        exact lead_stop x r hc
      · have e : (i + 1 + (lead x r + 1)) % row.length = 0 := by
          have : i + 1 + (lead x r + 1) = row.length := by omega
          rw [this, Nat.mod_self]
        rw [e, gx, g0]
        have := h x (by rw [he]; simp)
        omega
  have hsum : ∀ (r a : List Int), xs = a ++ r → ((List.range' (a.length + 1) r.length).map (farL row)).sum = (leads r).sum + r.length := by
    intro r
    induction r with
    | nil => intro a _; rfl
    | cons x r ih =>
      intro a he
      have h1 := fs a.length a x r he rfl
      have h2 := ih (a ++ [x]) (by rw [he]; simp)
      rw [List.length_append] at h2
      rw [List.length_cons, List.range'_succ, List.map_cons, List.sum_cons, h1]
      have e : [x].length = 1 := rfl
      rw [e] at h2
      rw [h2]
      show _ = (lead x r + (leads r).sum) + (r.length + 1)
      omega
  have h1 := hsum xs [] rfl
  show ((List.range (xs.length + 1)).map (farL row)).sum = _
  rw [List.range_eq_range', List.range'_succ, List.map_cons, List.sum_cons, f0]
  rw [List.length_nil, Nat.zero_add] at h1
  rw [h1]
theorem tri_eq : ∀ n, tri n * 2 + n = n * n
  | 0 => rfl
  | n + 1 => by
    have := tri_eq n
    unfold tri
    have e : (n + 1) * (n + 1) = n * n + 2 * n + 1 := by
      rw [Nat.add_mul, Nat.mul_add]
      omega
    omega
theorem built_sum {n count : Nat} (hn : 1 ≤ n) (h1 : 2 * n - 1 ≤ count) (h2 : count ≤ n * (n + 1) / 2) : (stepsL (builtL n count)).sum = count := by
  obtain ⟨m, rfl⟩ : ∃ m, n = m + 1 := ⟨n - 1, by omega⟩
  have hfl : ((List.range m).map fun k : Nat => (k : Int)).length = m := by rw [List.length_map, List.length_range]
  have hsorted : ((List.range m).map fun k : Nat => (k : Int)).Pairwise (· < ·) := by
    rw [List.pairwise_map]
    exact List.pairwise_lt_range.imp fun h => by omega
  have hperm := pops_perm m (count - (2 * (m + 1) - 1)) ((List.range m).map fun k : Nat => (k : Int)) hfl
  have hlt : ∀ x ∈ popsF (takesF m (count - (2 * (m + 1) - 1))) ((List.range m).map fun k : Nat => (k : Int)), x < ((m + 1 : Nat) : Int) - 1 := by
    intro x hx
    obtain ⟨k, hk, rfl⟩ := List.mem_map.mp (hperm.mem_iff.mp hx)
    have := List.mem_range.mp hk
    omega
  show (stepsL ((((m + 1 : Nat) : Int) - 1) :: popsF (takesF m (count - (2 * (m + 1) - 1))) ((List.range m).map fun k : Nat => (k : Int)))).sum = count
  rw [steps_top _ _ hlt, leads_pops m _ _ hfl hsorted, takes_sum m, hperm.length_eq, hfl]
  · omega
  · have h3 := tri_eq m
    have h4 : (m + 1) * (m + 1 + 1) = m * m + 3 * m + 2 := by
      rw [Nat.mul_add, Nat.add_mul, Nat.mul_add, Nat.add_mul]
      omega
    rw [h4] at h2
    omega
theorem built_perm {n count : Nat} (hn : 1 ≤ n) : (builtL n count).Perm ((List.range n).map fun k : Nat => (k : Int)) := by
  obtain ⟨m, rfl⟩ : ∃ m, n = m + 1 := ⟨n - 1, by omega⟩
  have hfl : ((List.range m).map fun k : Nat => (k : Int)).length = m := by rw [List.length_map, List.length_range]
  have hperm := pops_perm m (count - (2 * (m + 1) - 1)) ((List.range m).map fun k : Nat => (k : Int)) hfl
  show ((((m + 1 : Nat) : Int) - 1) :: popsF (takesF m (count - (2 * (m + 1) - 1))) ((List.range m).map fun k : Nat => (k : Int))).Perm _
  rw [List.range_succ, List.map_append]
  refine (hperm.cons _).trans ?_
  have e : ((m + 1 : Nat) : Int) - 1 = (m : Int) := by omega
  rw [e]
  exact List.perm_append_comm (l₁ := [(m : Int)])
end K50

set_option Elab.async false
set_option linter.all false
set_option maxRecDepth 100000
set_option maxHeartbeats 4000000
/-! K50b: what is checked; how far numbers go. -/
namespace K50
open PySem PySem.Spec L2 DL
theorem check_many_ok (ns : List Int) (n most ct : Int) (h1 : 1 ≤ n) (h2 : n ≤ most) : Tells h_check_many ns [.dat (.int n), .dat (.int most)] ct .none ct := by
  refine tells_fn (g := ⟨[.dat (.int n), .dat (.int most)], ct⟩) rfl ?_
  have e1 : decide (most < n) = false := decide_eq_false (by omega)
  have e2 : decide (n < 1) = false := decide_eq_false (by omega)
  simp [m_check_many, e1, e2]
theorem check_many_large (ns : List Int) (n most ct : Int) (h1 : most < n) : h_check_many ns [.dat (.int n), .dat (.int most)] ct = .exc "TooLarge" ct := by
  refine raises_fn rfl ?_
  have e1 : decide (most < n) = true := decide_eq_true (by omega)
  simp [m_check_many, e1]
theorem check_many_low (ns : List Int) (n most ct : Int) (h1 : n < 1) (h2 : 1 ≤ most) : h_check_many ns [.dat (.int n), .dat (.int most)] ct = .exc "NotAllowed" ct := by
  refine raises_fn rfl ?_
  have e1 : decide (most < n) = false := decide_eq_false (by omega)
  have e2 : decide (n < 1) = true := decide_eq_true (by omega)
  simp [m_check_many, e1, e2]
theorem most_run (ns : List Int) (n h p ct : Int) (sl : List DL.Slot) (e : h_check_many ns [.dat (.int n), .dat (.int 40)] ct = .ok .none ⟨sl, ct⟩) (em : mulXD (.int n) (.int (n + 1)) = some (.int p)) (ef : fdivD (.int p) (.int 2) = some (.int h)) : m_most_messages ns ⟨[.dat (.int n)], ct⟩ = .ok (.ret (.int h)) ⟨[.dat (.int n)], ct⟩ := by
  simp [m_most_messages, e, em, ef]
theorem mul_next (n : Nat) (h2 : n ≤ 40) : mulXD (.int (n : Nat)) (.int ((n : Int) + 1)) = some (.int ((n : Int) * ((n : Int) + 1))) := mulS (.inl (small_of (by omega) (by omega)))
theorem mul_nextN (n : Nat) (h2 : n ≤ 40) : mulXD (.int (n : Nat)) (.int ((n : Int) + 1)) = some (.int ((n * (n + 1) : Nat) : Int)) := mul_next n h2
theorem most_tells (ns : List Int) (n : Nat) (ct : Int) (h1 : 1 ≤ n) (h2 : n ≤ 40) : Tells h_most_messages ns [.dat (.int (n : Nat))] ct (.int ((n * (n + 1) / 2 : Nat) : Int)) ct := by
  obtain ⟨sl, e⟩ := check_many_ok ns n 40 ct (by omega) (by omega)
  exact tells_fn (g := ⟨[.dat (.int (n : Nat))], ct⟩) rfl (most_run ns n _ _ ct sl e (mul_nextN n h2) (fdiv2 (n * (n + 1))))
theorem fewest_tells (ns : List Int) (n : Nat) (ct : Int) (h1 : 1 ≤ n) (h2 : n ≤ 40) : Tells h_fewest_messages ns [.dat (.int (n : Nat))] ct (.int ((2 * n - 1 : Nat) : Int)) ct := by
  obtain ⟨sl, e⟩ := check_many_ok ns n 40 ct (by omega) (by omega)
  refine tells_fn (g := ⟨[.dat (.int (n : Nat))], ct⟩) rfl ?_
  have em : mulXD (.int 2) (.int (n : Nat)) = some (.int (2 * (n : Int))) := mulS (.inl (by decide))
  have e2 : 2 * (n : Int) - 1 = ((2 * n - 1 : Nat) : Int) := by omega
  simp [m_fewest_messages, e, em]
  exact e2
/-! the numbers of a ring -/
def dkF (xs : List Int) (acc : List (Key × D)) : List (Key × D) := xs.foldl (fun a x => putD a (Sum.inl x : Key) (.bool true)) acc
theorem dk_len : ∀ (xs : List Int) (acc : List (Key × D)), xs.Nodup → (∀ x ∈ xs, ∀ kv ∈ acc, kv.1 ≠ Sum.inl x) → (dkF xs acc).length = acc.length + xs.length
  | [], acc, _, _ => rfl
  | x :: r, acc, hn, h => by
    have h0 : (acc.any fun kv => decide (kv.1 = (Sum.inl x : Key))) = false := by
      rw [List.any_eq_false]
      intro kv hkv
      simpa using h x List.mem_cons_self kv hkv
    have e : putD acc (Sum.inl x : Key) (.bool true) = acc ++ [(Sum.inl x, .bool true)] := by
      unfold putD
      rw [if_neg (by rw [h0]; decide)]
    have hn2 := List.nodup_cons.mp hn
    show (dkF r (putD acc (Sum.inl x : Key) (.bool true))).length = _
    rw [e, dk_len r _ hn2.2 fun y hy kv hkv => ?_]
    · simp; omega
    · rcases List.mem_append.mp hkv with z | z
      · exact h y (List.mem_cons_of_mem _ hy) kv z
      · obtain rfl := List.mem_singleton.mp z
        intro e
        have : x = y := by injection e
        exact hn2.1 (this ▸ hy)
theorem dk_run (s0 : DL.Slot) (ct : Int) : ∀ (xs : List Int) (acc : List (Key × D)), acc.length + xs.length ≤ 1000 → dkLoop (putM 1) yesM (getM 1) (pureM (.bool true)) [1] (xs.map PyData.int) acc ⟨[s0, .no], ct⟩ = .ok (dkF xs acc) ⟨[s0, .no], ct⟩
  | [], acc, _ => rfl
  | x :: r, acc, h => by
    rw [List.length_cons] at h
    have hl := len_put acc (Sum.inl x : Key) (.bool true)
    have hz : acc.length < sizeLine := small _ (by omega)
    show (if acc.length < sizeLine then afterM [1] (dkLoop (putM 1) yesM (getM 1) (pureM (.bool true)) [1] (r.map PyData.int) (putD acc (Sum.inl x : Key) (.bool true))) else fun _ => .bad) ⟨[s0, .dat (.int x)], ct⟩ = _
    rw [if_pos hz]
    exact dk_run s0 ct r _ (by omega)
def okRow (row : List Int) : Prop := row ≠ [] ∧ row.length ≤ 40 ∧ row.Nodup ∧ ∀ x ∈ row, -1000000 ≤ x ∧ x ≤ 1000000
def bigX (x : Int) : Bool := decide (1000000 < (if x < 0 then -x else x))
theorem any_run (row : List Int) (ct : Int) (h : row.length ≤ 1000) : (opN anyD (consM (lstM (lcM (srcM (getM 0)) (putM 1) yesM (op2 gtD (opN absD (consM (getM 1) (pureM []))) (pureM (.int 1000000))) [1])) (pureM []))) ⟨[.dat (eT row), .no], ct⟩ = .ok (.bool (row.any bigX)) ⟨[.dat (eT row), .no], ct⟩ := by
  refine ev_opN (xs := [.list (row.map fun x => PyData.bool (bigX x))]) (ev_cons (g1 := ⟨[.dat (eT row), .no], ct⟩) (ev_lst ?_) rfl) ?_
  · exact lcTm (g1 := ⟨[.dat (eT row), .no], ct⟩) PyData.int row (fun x => PyData.bool (bigX x)) rfl (fun x hx => ⟨⟨[.dat (eT row), .dat (.int x)], ct⟩, ⟨[.dat (eT row), .dat (.int x)], ct⟩, rfl, rfl, rfl⟩) (size_le _ (by omega))
  · show ((blsD (row.map fun x => PyData.bool (bigX x))).map fun ns => PyData.bool (ns.any id)) = _
    rw [bls_map]
    simp
theorem lenK_run (row : List Int) (ct : Int) (h : row.length ≤ 1000) : (lenKM (dkM (srcM (getM 0)) (putM 1) yesM (getM 1) (pureM (.bool true)) [1])) ⟨[.dat (eT row), .no], ct⟩ = .ok (.int ((dkF row []).length : Nat)) ⟨[.dat (eT row), .no], ct⟩ := by
  refine ev_bind (a := dkF row []) (g1 := ⟨[.dat (eT row), .no], ct⟩) ?_ rfl
  exact ev_bind (a := row.map PyData.int) (g1 := ⟨[.dat (eT row), .no], ct⟩) rfl (dk_run _ ct row [] (by simpa using h))
theorem check_ok (ns : List Int) (row : List Int) (ct : Int) (h : okRow row) : Tells h_check_numbers ns [.dat (eT row)] ct .none ct := by
  obtain ⟨h0, hl, hn, hb⟩ := h
  have h1 : 1 ≤ row.length := List.length_pos_iff.mpr h0
  refine tells_fn (g := ⟨[.dat (eT row), .no], ct⟩) rfl ?_
  have e1 := any_run row ct (by omega)
  have e2 := lenK_run row ct (by omega)
  have a1 : row.any bigX = false := by
    rw [List.any_eq_false]
    intro x hx
    have := hb x hx
    unfold bigX
    rw [decide_eq_true_eq]
    split <;> omega
  rw [a1] at e1
  rw [dk_len row [] hn (fun x _ kv hkv => by cases hkv)] at e2
  have b1 : decide ((40 : Int) < (row.length : Nat)) = false := decide_eq_false (by omega)
  have b2 : (((row.length : Nat) : Int) == 0) = false := beq_false_of_ne (by omega)
  have b3 : decide ((([] : List (Key × D)).length + row.length : Nat) < ((row.length : Nat) : Int)) = false := decide_eq_false (by simp)
  have c1 : (orM (asB (op2 gtD (opN lenD (consM (getM 0) (pureM []))) (pureM (.int 40)))) (asB (opN anyD (consM (lstM (lcM (srcM (getM 0)) (putM 1) yesM (op2 gtD (opN absD (consM (getM 1) (pureM []))) (pureM (.int 1000000))) [1])) (pureM []))))) ⟨[.dat (eT row), .no], ct⟩ = .ok false ⟨[.dat (eT row), .no], ct⟩ := ev_orF (g1 := ⟨[.dat (eT row), .no], ct⟩) (by simp [b1]) (ev_asB e1)
  have c2 : (orM (asB (op2 eqD (opN lenD (consM (getM 0) (pureM []))) (pureM (.int 0)))) (asB (op2 ltD (lenKM (dkM (srcM (getM 0)) (putM 1) yesM (getM 1) (pureM (.bool true)) [1])) (opN lenD (consM (getM 0) (pureM [])))))) ⟨[.dat (eT row), .no], ct⟩ = .ok false ⟨[.dat (eT row), .no], ct⟩ := ev_orF (g1 := ⟨[.dat (eT row), .no], ct⟩) (by simp [b2]) (by rw [x_asB, x_op2, e2]; simp)
  exact ev_next (ev_ifF c1 rfl) (ev_next (ev_ifF c2 rfl) (ev_stop (ev_ret rfl) (fun z => nomatch z)))
theorem check_large (ns : List Int) (row : List Int) (ct : Int) (hl : row.length ≤ 1000) (h : 40 < row.length ∨ row.any bigX = true) : h_check_numbers ns [.dat (eT row)] ct = .exc "TooLarge" ct := by
  refine raises_fn rfl ?_
  have e1 := any_run row ct hl
  have c1 : (orM (asB (op2 gtD (opN lenD (consM (getM 0) (pureM []))) (pureM (.int 40)))) (asB (opN anyD (consM (lstM (lcM (srcM (getM 0)) (putM 1) yesM (op2 gtD (opN absD (consM (getM 1) (pureM []))) (pureM (.int 1000000))) [1])) (pureM []))))) ⟨[.dat (eT row), .no], ct⟩ = .ok true ⟨[.dat (eT row), .no], ct⟩ := by
    by_cases b : 40 < row.length
    · have b1 : decide ((40 : Int) < (row.length : Nat)) = true := decide_eq_true (by omega)
      exact ev_orT (by simp [b1])
    · have b1 : decide ((40 : Int) < (row.length : Nat)) = false := decide_eq_false (by omega)
      rw [h.resolve_left b] at e1
      exact ev_orF (g1 := ⟨[.dat (eT row), .no], ct⟩) (by simp [b1]) (ev_asB e1)
  exact ev_exc (ev_ifT c1 (ev_exc rfl))
theorem check_refused (ns : List Int) (row : List Int) (ct : Int) (hl : row.length ≤ 40) (hb : row.any bigX = false) (h : (dkF row []).length < row.length ∨ row = []) : h_check_numbers ns [.dat (eT row)] ct = .exc "NotAllowed" ct := by
  refine raises_fn rfl ?_
  have e1 := any_run row ct (by omega)
  have e2 := lenK_run row ct (by omega)
  rw [hb] at e1
  have b1 : decide ((40 : Int) < (row.length : Nat)) = false := decide_eq_false (by omega)
  have c1 : (orM (asB (op2 gtD (opN lenD (consM (getM 0) (pureM []))) (pureM (.int 40)))) (asB (opN anyD (consM (lstM (lcM (srcM (getM 0)) (putM 1) yesM (op2 gtD (opN absD (consM (getM 1) (pureM []))) (pureM (.int 1000000))) [1])) (pureM []))))) ⟨[.dat (eT row), .no], ct⟩ = .ok false ⟨[.dat (eT row), .no], ct⟩ := ev_orF (g1 := ⟨[.dat (eT row), .no], ct⟩) (by simp [b1]) (ev_asB e1)
  have c2 : (orM (asB (op2 eqD (opN lenD (consM (getM 0) (pureM []))) (pureM (.int 0)))) (asB (op2 ltD (lenKM (dkM (srcM (getM 0)) (putM 1) yesM (getM 1) (pureM (.bool true)) [1])) (opN lenD (consM (getM 0) (pureM [])))))) ⟨[.dat (eT row), .no], ct⟩ = .ok true ⟨[.dat (eT row), .no], ct⟩ := by
    rcases h with h | rfl
    · have b2 : (((row.length : Nat) : Int) == 0) = false := beq_false_of_ne (by omega)
      have b3 : decide (((dkF row []).length : Int) < (row.length : Int)) = true := decide_eq_true (by omega)
      exact ev_orF (g1 := ⟨[.dat (eT row), .no], ct⟩) (by simp [b2]) (by rw [x_asB, x_op2, e2]; simp [b3]; omega)
    · rfl
  exact ev_nextX (ev_ifF c1 rfl) (ev_exc (ev_ifT c2 (ev_exc rfl)))
end K50

set_option Elab.async false
set_option linter.all false
set_option maxRecDepth 100000
set_option maxHeartbeats 4000000
/-! K50c: how far numbers go. -/
namespace K50
open PySem PySem.Spec L2 DL
theorem ix_row (row : List Int) (j : Nat) (h : j < row.length) : L2.atI (row.map PyData.int) (j : Int) = some (.int (gI row j)) := by
  refine L2.atI_nat ?_
  unfold gI
  simp [List.getElem?_eq_getElem h, List.getD]
def eE (row : List Int) (i : Nat) : D := .tuple [.int (i : Nat), .int (gI row i)]
theorem enum_row (row : List Int) : enumL (row.map PyData.int) = (List.range row.length).map (eE row) := by
  unfold enumL
  apply List.ext_getElem?
  intro i
  by_cases h : i < row.length
  · simp [eE, gI, h]
  · simp [eE, h]
theorem modNN (a b n : Nat) (h : n ≠ 0) : modD (.int ((a : Int) + (b : Int))) (.int (n : Nat)) = some (.int (((a + b) % n : Nat) : Int)) := modN (a + b) n h
abbrev Sk (row : List Int) (acc : List D) (s3 s4 s5 : DL.Slot) (ct : Int) : Sg := ⟨[.dat (eT row), .dat (.int (row.length : Nat)), .own acc, s3, s4, s5], ct⟩
theorem far_loop (row : List Int) (acc : List D) (i : Nat) (ct : Int) (h1 : 1 ≤ row.length) : ∀ (k far N : Nat), k < N → row.length ≤ far + k →
    whileM N (andM (asB (op2 ltD (getM 5) (getM 1))) (asB (op2 ltD (op2 ixD (getM 0) (op2 modD (op2 addD (getM 3) (getM 5)) (getM 1))) (getM 4)))) (seqM (augM 5 (i2D (fun _ _ => true) fun i j => .int (i + j)) (pureM (.int 1))) nextM) (Sk row acc (.dat (.int (i : Nat))) (.dat (.int (gI row i))) (.dat (.int (far : Nat))) ct)
      = .ok .next (Sk row acc (.dat (.int (i : Nat))) (.dat (.int (gI row i))) (.dat (.int (farF row row.length i (gI row i) k far : Nat))) ct)
  | 0, far, N + 1, hk, hf => by
    exact ev_whF (ev_andF (g1 := Sk row acc (.dat (.int (i : Nat))) (.dat (.int (gI row i))) (.dat (.int (far : Nat))) ct) (by simp; omega))
  | k + 1, far, N + 1, hk, hf => by
    by_cases hb : far < row.length
    · have hm := modNN i far row.length (by omega)
      have hx := ix_row row ((i + far) % row.length) (Nat.mod_lt _ (by omega))
      generalize hj : (i + far) % row.length = j at hm hx
      have e2 : (asB (op2 ltD (op2 ixD (getM 0) (op2 modD (op2 addD (getM 3) (getM 5)) (getM 1))) (getM 4))) (Sk row acc (.dat (.int (i : Nat))) (.dat (.int (gI row i))) (.dat (.int (far : Nat))) ct) = .ok (decide (gI row j < gI row i)) (Sk row acc (.dat (.int (i : Nat))) (.dat (.int (gI row i))) (.dat (.int (far : Nat))) ct) := by
        simp [hm, hx]
      by_cases hc : gI row j < gI row i
      · rw [decide_eq_true hc] at e2
        have ef : farF row row.length i (gI row i) (k + 1) far = farF row row.length i (gI row i) k (far + 1) := by
          show (if _ then _ else _) = _
          rw [if_pos ⟨hb, by rw [hj]; exact hc⟩]
        rw [ef]
        refine ev_whT (ev_andT (by simp; omega) e2) (g2 := Sk row acc (.dat (.int (i : Nat))) (.dat (.int (gI row i))) (.dat (.int ((far + 1 : Nat) : Int))) ct) (by simp) (far_loop row acc i ct h1 k (far + 1) N (by omega) (by omega))
      · rw [decide_eq_false hc] at e2
        have ef : farF row row.length i (gI row i) (k + 1) far = far := by
          show (if _ then _ else _) = _
          rw [if_neg (by rw [hj]; exact fun z => hc z.2)]
        rw [ef]
        exact ev_whF (ev_andT (by simp; omega) e2)
    · have ef : farF row row.length i (gI row i) (k + 1) far = far := by
        show (if _ then _ else _) = _
        rw [if_neg (fun z => hb z.1)]
      rw [ef]
      exact ev_whF (ev_andF (by simp; omega))
abbrev eN (n : Nat) : D := .int (n : Nat)
theorem known_tells (ns : List Int) (row : List Int) (ct : Int) (hl : row.length ≤ 50) : Tells h_known_steps ns [.dat (eT row)] ct (.list ((stepsL row).map eN)) ct := by
  have hz : (stepsL row).length = row.length := steps_len row
  obtain ⟨g', e, s3, s4, s5, rfl⟩ := forM_acc (k := tupG 2 (gConsM (putM 3) (gConsM (putM 4) gNilM))) (body := (seqM (asgM (pureM (.int 1)) (putM 5))
  (seqM (whileM 1000 (andM (asB (op2 ltD (getM 5) (getM 1))) (asB (op2 ltD (op2 ixD (getM 0) (op2 modD (op2 addD (getM 3) (getM 5)) (getM 1))) (getM 4))))
  (seqM (augM 5 (i2D (fun _ _ => true) fun i j => .int (i + j)) (pureM (.int 1)))
  nextM))
  (seqM (appM 2 (getM 5))
  nextM)))) (eE row) (fun acc g => ∃ s3 s4 s5, g = ⟨[.dat (eT row), .dat (.int (row.length : Nat)), .own acc, s3, s4, s5], ct⟩) (fun i => [eN (farL row i)]) 1000 (List.range row.length) (fun i hi acc g ⟨s3, s4, s5, hg⟩ hn => by
    subst hg
    have hi := List.mem_range.mp hi
    refine ⟨_, ?_, .dat (.int (i : Nat)), .dat (.int (gI row i)), .dat (eN (farL row i)), rfl⟩
    have ew := far_loop row acc i ct (by omega) row.length 1 1000 (by omega) (by omega)
    have hs : acc.length < sizeLine := small _ (by simp at hn; omega)
    show _ = Res.ok Fl.next (Sk row (acc ++ [eN (farL row i)]) (.dat (.int (i : Nat))) (.dat (.int (gI row i))) (.dat (eN (farL row i))) ct)
    refine ev_go (g1 := Sk row acc (.dat (.int (i : Nat))) (.dat (.int (gI row i))) s5 ct) rfl (ev_next (g1 := Sk row acc (.dat (.int (i : Nat))) (.dat (.int (gI row i))) (.dat (.int (1 : Nat))) ct) rfl (ev_next ew ?_))
    show _ = Res.ok Fl.next (Sk row (acc ++ [eN (farF row row.length i (gI row i) row.length 1)]) (.dat (.int (i : Nat))) (.dat (.int (gI row i))) (.dat (eN (farF row row.length i (gI row i) row.length 1))) ct)
    generalize farF row row.length i (gI row i) row.length 1 = fr
    simp [hs]) [] ⟨[.dat (eT row), .dat (.int (row.length : Nat)), .own [], .no, .no, .no], ct⟩ ⟨.no, .no, .no, rfl⟩ (by rw [flat_one]; simp; omega)
  rw [flat_one] at e
  refine tells_fn (g := ⟨[.dat (eT row), .dat (.int (row.length : Nat)), .dat (.list ((stepsL row).map eN)), s3, s4, s5], ct⟩) rfl ?_
  refine ev_next (g1 := ⟨[.dat (eT row), .dat (.int (row.length : Nat)), .no, .no, .no, .no], ct⟩) (by simp) (ev_next (g1 := ⟨[.dat (eT row), .dat (.int (row.length : Nat)), .own [], .no, .no, .no], ct⟩) (by simp) (ev_next (ev_for (xs := enumL (row.map PyData.int)) (g1 := ⟨[.dat (eT row), .dat (.int (row.length : Nat)), .own [], .no, .no, .no], ct⟩) rfl (by rw [enum_row]; exact e)) ?_))
  have es : (stepsL row).map eN = (List.range row.length).map fun i => eN (farL row i) := by unfold stepsL; rw [List.map_map]; rfl
  rw [es]
  rfl
/-! those that ask it -/
theorem natInts (l : List Nat) : intsD (l.map eN) = some (l.map fun n : Nat => (n : Int)) := by
  have := ints_map (l.map fun n : Nat => (n : Int))
  rw [List.map_map] at this
  exact this
theorem natSum : ∀ l : List Nat, (l.map fun n : Nat => (n : Int)).sum = (l.sum : Nat)
  | [] => rfl
  | x :: r => by simp [natSum r]
theorem steps_on_tells (ns : List Int) (row : List Int) (ct : Int) (h : okRow row) : Tells h_steps_on ns [.dat (eT row)] ct (.tuple ((stepsL row).map eN)) ct := by
  obtain ⟨s1, e1⟩ := check_ok ns row ct h
  obtain ⟨s2, e2⟩ := known_tells ns row ct (by have := h.2.1; omega)
  refine tells_fn (g := ⟨[.dat (eT row)], ct⟩) rfl ?_
  simp [m_steps_on, e1, e2]
  rfl
theorem sum_steps (l : List Nat) : sumD [.list (l.map eN)] = some (eN l.sum) := by
  show (intsD (l.map eN)).map (fun ns => PyData.int ns.sum) = _
  rw [natInts]
  show some (PyData.int _) = _
  rw [natSum]
theorem messages_tells (ns : List Int) (row : List Int) (ct : Int) (h : okRow row) : Tells h_messages ns [.dat (eT row)] ct (eN (stepsL row).sum) ct := by
  obtain ⟨s1, e1⟩ := check_ok ns row ct h
  obtain ⟨s2, e2⟩ := known_tells ns row ct (by have := h.2.1; omega)
  refine tells_fn (g := ⟨[.dat (eT row)], ct⟩) rfl ?_
  have e3 := sum_steps (stepsL row)
  generalize (stepsL row).map eN = xs at e2 e3
  generalize (stepsL row).sum = z at e3 ⊢
  simp [m_messages, e1, e2, e3]
def mxL (l : List Nat) : Int := (maxL (l.map fun n : Nat => (n : Int))).getD 0
theorem max_steps (l : List Nat) (h : l ≠ []) : maxD [.list (l.map eN)] = some (.int (mxL l)) := by
  show (intsD (l.map eN)).bind (fun ns => (maxL ns).map fun m => PyData.int m) = _
  rw [natInts]
  unfold mxL
  cases l with
  | nil => exact (h rfl).elim
  | cons x r => rfl
theorem steps_ne {row : List Int} (h : okRow row) : stepsL row ≠ [] := by
  intro z
  have := steps_len row
  rw [z] at this
  exact h.1 (List.length_eq_zero_iff.mp this.symm)
theorem rounds_tells (ns : List Int) (row : List Int) (ct : Int) (h : okRow row) : Tells h_rounds_to_know ns [.dat (eT row)] ct (.int (mxL (stepsL row))) ct := by
  obtain ⟨s1, e1⟩ := check_ok ns row ct h
  obtain ⟨s2, e2⟩ := known_tells ns row ct (by have := h.2.1; omega)
  refine tells_fn (g := ⟨[.dat (eT row)], ct⟩) rfl ?_
  have e3 := max_steps (stepsL row) (steps_ne h)
  generalize (stepsL row).map eN = xs at e2 e3
  simp [m_rounds_to_know, e1, e2, e3]
theorem ix_steps (row : List Int) (j : Nat) (h : j < row.length) : L2.atI ((stepsL row).map eN) (j : Int) = some (eN (farL row j)) := by
  refine L2.atI_nat ?_
  unfold stepsL
  simp [h]
theorem stops_tells (ns : List Int) (row : List Int) (a : Nat) (ct : Int) (h : okRow row) (ha : a < row.length) : Tells h_stops_at ns [.dat (eT row), .dat (eN a)] ct (eN ((a + farL row a) % row.length)) ct := by
  obtain ⟨s1, e1⟩ := check_ok ns row ct h
  obtain ⟨s2, e2⟩ := known_tells ns row ct (by have := h.2.1; omega)
  refine tells_fn (g := ⟨[.dat (eT row), .dat (eN a)], ct⟩) rfl ?_
  have e3 := ix_steps row a ha
  have e4 := modNN a (farL row a) row.length (by omega)
  generalize (stepsL row).map eN = xs at e2 e3
  generalize (a + farL row a) % row.length = z at e4 ⊢
  generalize farL row a = f at e3 e4
  simp [m_stops_at, e1, e2, e3, e4, ha]
theorem stops_refused (ns : List Int) (row : List Int) (a : Int) (ct : Int) (h : okRow row) (ha : a < 0 ∨ (row.length : Nat) ≤ a) : h_stops_at ns [.dat (eT row), .dat (.int a)] ct = .exc "NotAllowed" ct := by
  obtain ⟨s1, e1⟩ := check_ok ns row ct h
  refine raises_fn rfl ?_
  by_cases b : 0 ≤ a
  · have b2 : ¬ a < (row.length : Nat) := by omega
    simp [m_stops_at, e1, b, b2]
  · simp [m_stops_at, e1, b]
/-! what raises -/
theorem five_X (ns : List Int) (row : List Int) (ct : Int) (n : Str) (h : h_check_numbers ns [.dat (eT row)] ct = .exc n ct) (a : D) : h_steps_on ns [.dat (eT row)] ct = .exc n ct ∧ h_messages ns [.dat (eT row)] ct = .exc n ct ∧ h_rounds_to_know ns [.dat (eT row)] ct = .exc n ct ∧ h_left_by_rounds ns [.dat (eT row)] ct = .exc n ct ∧ h_rounds_of_two ns [.dat (eT row)] ct = .exc n ct ∧ h_stops_at ns [.dat (eT row), .dat a] ct = .exc n ct := by
  refine ⟨raises_fn rfl ?_, raises_fn rfl ?_, raises_fn rfl ?_, raises_fn rfl ?_, raises_fn rfl ?_, raises_fn rfl ?_⟩
  · simp [m_steps_on, h]
  · simp [m_messages, h]
  · simp [m_rounds_to_know, h]
  · simp [m_left_by_rounds, h]
  · simp [m_rounds_of_two, h]
  · simp [m_stops_at, h]
end K50

set_option Elab.async false
set_option linter.all false
set_option maxRecDepth 100000
set_option maxHeartbeats 4000000
/-! K50d: what is left round by round. -/
namespace K50
open PySem PySem.Spec L2 DL
theorem ix_before (row : List Int) (i : Nat) (h : i < row.length) : L2.atI (row.map PyData.int) ((i : Int) - 1) = some (.int (gI row ((i + (row.length - 1)) % row.length))) := by
  cases i with
  | zero =>
    have e : (0 + (row.length - 1)) % row.length = row.length - 1 := by rw [Nat.zero_add]; exact Nat.mod_eq_of_lt (by omega)
    rw [e]
    have hx := ix_row row (row.length - 1) (by omega)
    unfold L2.atI at hx ⊢
    have e1 : L2.ixN (row.map PyData.int).length ((row.length - 1 : Nat) : Int) = some (row.length - 1) := by
      unfold L2.ixN
      rw [if_pos (by omega), if_pos (by rw [List.length_map]; omega)]
      rfl
    have e2 : L2.ixN (row.map PyData.int).length (((0 : Nat) : Int) - 1) = some (row.length - 1) := by
      unfold L2.ixN
      rw [if_neg (by decide), if_pos (by rw [List.length_map]; omega)]
      congr 1
      rw [List.length_map]
      omega
    rw [e1] at hx
    rw [e2]
    exact hx
  | succ i =>
    have e : (i + 1 + (row.length - 1)) % row.length = i := by
      have : i + 1 + (row.length - 1) = i + row.length := by omega
      rw [this, Nat.add_mod_right]
      exact Nat.mod_eq_of_lt (by omega)
    rw [e]
    have e2 : (((i + 1 : Nat) : Int) - 1) = (i : Nat) := by omega
    rw [e2]
    exact ix_row row i (by omega)
theorem modN1 (a n : Nat) (h : n ≠ 0) : modD (.int ((a : Int) + 1)) (.int (n : Nat)) = some (.int (((a + 1) % n : Nat) : Int)) := modN (a + 1) n h
theorem ix_lastT (acc : List D) (d : D) : L2.atI (acc ++ [d]) (-1) = some d := L2.atI_last acc d
abbrev Sr (acc : List D) (s0 s2 s3 : DL.Slot) (ct : Int) : Sg := ⟨[s0, .own acc, s2, s3, .no, .no], ct⟩
theorem keep_lc (row : List Int) (acc : List D) (s0 : DL.Slot) (ct : Int) (hl : row.length ≤ 50) :
    (lcM (srcA enumD (consM (getM 2) (pureM []))) (tupG 2 (gConsM (putM 4) (gConsM (putM 5) gNilM))) (andM (asB (op2 gtD (getM 5) (op2 ixD (getM 2) (op2 subD (getM 4) (pureM (.int 1)))))) (asB (op2 gtD (getM 5) (op2 ixD (getM 2) (op2 modD (op2 addD (getM 4) (pureM (.int 1))) (getM 3)))))) (getM 5) [4, 5]) (Sr acc s0 (.dat (eT row)) (.dat (eN row.length)) ct)
      = .ok ((roundL row).map PyData.int) (Sr acc s0 (.dat (eT row)) (.dat (eN row.length)) ct) := by
  have hh := lcT (g := Sr acc s0 (.dat (eT row)) (.dat (eN row.length)) ct) (g1 := Sr acc s0 (.dat (eT row)) (.dat (eN row.length)) ct) (src := srcA enumD (consM (getM 2) (pureM []))) (k := tupG 2 (gConsM (putM 4) (gConsM (putM 5) gNilM))) (c := andM (asB (op2 gtD (getM 5) (op2 ixD (getM 2) (op2 subD (getM 4) (pureM (.int 1)))))) (asB (op2 gtD (getM 5) (op2 ixD (getM 2) (op2 modD (op2 addD (getM 4) (pureM (.int 1))) (getM 3)))))) (e := getM 5) (vs := [4, 5]) (eE row) (List.range row.length) (keepR row) (fun i => .int (gI row i)) (by
      show Res.ok (enumL (row.map PyData.int)) _ = _
      rw [enum_row]) (fun i hi => by
      have hi := List.mem_range.mp hi
      let G : Sg := ⟨[s0, .own acc, .dat (eT row), .dat (eN row.length), .dat (.int (i : Nat)), .dat (.int (gI row i))], ct⟩
      refine ⟨G, G, rfl, ?_, fun _ => rfl, fun _ => ⟨G, rfl, rfl⟩⟩
      have e1 := ix_before row i hi
      have e2 := modN1 i row.length (by omega)
      have e3 := ix_row row ((i + 1) % row.length) (Nat.mod_lt _ (by omega))
      unfold keepR
      generalize (i + 1) % row.length = j at e2 e3 ⊢
      generalize gI row ((i + (row.length - 1)) % row.length) = a at e1 ⊢
      by_cases b : a < gI row i
      · simp [G, e1, e2, e3, b]
      · simp [G, e1, b]) (size_le _ (by simp; omega))
  rw [hh]
  unfold roundL
  rw [List.map_map]
  rfl
def eTs (rs : List (List Int)) : List D := rs.map eT
theorem rounds_loop (s0 : DL.Slot) (ct : Int) : ∀ (k : Nat) (acc : List D) (row : List Int) (s2 s3 : DL.Slot) (N : Nat), row.length ≤ 2 ^ k → row.length ≤ 50 → k < N → acc.length + k ≤ 1000 → ∃ t2 t3,
    whileM N (asB (op2 gtD (opN lenD (consM (ixV 1 (op1 negD (pureM (.int 1)))) (pureM []))) (pureM (.int 1))))
  (seqM (asgM (ixV 1 (op1 negD (pureM (.int 1)))) (putM 2))
  (seqM (asgM (opN lenD (consM (getM 2) (pureM []))) (putM 3))
  (seqM (appM 1 (opN tupleOfD (consM (lstM (lcM (srcA enumD (consM (getM 2) (pureM []))) (tupG 2 (gConsM (putM 4) (gConsM (putM 5) gNilM))) (andM (asB (op2 gtD (getM 5) (op2 ixD (getM 2) (op2 subD (getM 4) (pureM (.int 1)))))) (asB (op2 gtD (getM 5) (op2 ixD (getM 2) (op2 modD (op2 addD (getM 4) (pureM (.int 1))) (getM 3)))))) (getM 5) [4, 5])) (pureM []))))
  nextM))) (Sr (acc ++ [eT row]) s0 s2 s3 ct) = .ok .next (Sr (acc ++ eTs (roundsF k row)) s0 t2 t3 ct)
  | 0, acc, row, s2, s3, N + 1, h1, h2, h3, h4 => by
    refine ⟨s2, s3, ?_⟩
    have b : ¬ 1 < row.length := by omega
    have hx := ix_lastT acc (eT row)
    exact ev_whF (g1 := Sr (acc ++ [eT row]) s0 s2 s3 ct) (by simp [hx]; omega)
  | k + 1, acc, row, s2, s3, N + 1, h1, h2, h3, h4 => by
    have hx := ix_lastT acc (eT row)
    by_cases b : 1 < row.length
    · have hk := keep_half row
      have hp : 2 ^ (k + 1) = 2 ^ k * 2 := Nat.pow_succ 2 k
      obtain ⟨t2, t3, e⟩ := rounds_loop s0 ct k (acc ++ [eT row]) (roundL row) (.dat (eT row)) (.dat (eN row.length)) N (by omega) (by omega) (by omega) (by rw [List.length_append]; simp; omega)
      refine ⟨t2, t3, ?_⟩
      have er : roundsF (k + 1) row = row :: roundsF k (roundL row) := if_pos b
      rw [er]
      have ea : acc ++ eTs (row :: roundsF k (roundL row)) = acc ++ [eT row] ++ eTs (roundsF k (roundL row)) := by simp [eTs]
      rw [ea]
      refine ev_whT (g1 := Sr (acc ++ [eT row]) s0 s2 s3 ct) (by simp [hx]; omega) (g2 := Sr (acc ++ [eT row] ++ [eT (roundL row)]) s0 (.dat (eT row)) (.dat (eN row.length)) ct) ?_ e
      have hs : (acc ++ [eT row]).length < sizeLine := small _ (by rw [List.length_append]; simp; omega)
      refine ev_next (g1 := Sr (acc ++ [eT row]) s0 (.dat (eT row)) s3 ct) (by simp [hx]) (ev_next (g1 := Sr (acc ++ [eT row]) s0 (.dat (eT row)) (.dat (eN row.length)) ct) (by simp) (ev_next (g1 := Sr (acc ++ [eT row] ++ [eT (roundL row)]) s0 (.dat (eT row)) (.dat (eN row.length)) ct) ?_ rfl))
      exact ev_app (i := 1) (g := Sr (acc ++ [eT row]) s0 (.dat (eT row)) (.dat (eN row.length)) ct) (xs := acc ++ [eT row]) (xs' := acc ++ [eT row]) (d := eT (roundL row)) rfl (ev_opN (xs := [.list ((roundL row).map PyData.int)]) (ev_cons (ev_lst (keep_lc row (acc ++ [eT row]) s0 ct h2)) rfl) rfl) rfl hs
    · refine ⟨s2, s3, ?_⟩
      have er : roundsF (k + 1) row = [row] := if_neg b
      rw [er]
      exact ev_whF (by simp [hx, eTs]; omega)
def roundsL (row : List Int) : List (List Int) := roundsF 6 row
theorem known_rounds_tells (ns : List Int) (row : List Int) (ct : Int) (h : row.length ≤ 40) : Tells h_known_rounds ns [.dat (eT row)] ct (.list (eTs (roundsL row))) ct := by
  obtain ⟨t2, t3, e⟩ := rounds_loop (.dat (eT row)) ct 6 [] row .no .no 1000 (by omega) (by omega) (by decide) (by decide)
  refine tells_fn (g := ⟨[.dat (eT row), .dat (.list (eTs (roundsL row))), t2, t3, .no, .no], ct⟩) rfl ?_
  exact ev_next (g1 := ⟨[.dat (eT row), .own [eT row], .no, .no, .no, .no], ct⟩) (by simp; rfl) (ev_next e rfl)
theorem left_tells (ns : List Int) (row : List Int) (ct : Int) (h : okRow row) : Tells h_left_by_rounds ns [.dat (eT row)] ct (.list (eTs (roundsL row))) ct := by
  obtain ⟨s1, e1⟩ := check_ok ns row ct h
  obtain ⟨s2, e2⟩ := known_rounds_tells ns row ct h.2.1
  refine tells_fn (g := ⟨[.dat (eT row)], ct⟩) rfl ?_
  simp [m_left_by_rounds, e1, e2]
theorem two_tells (ns : List Int) (row : List Int) (ct : Int) (h : okRow row) : Tells h_rounds_of_two ns [.dat (eT row)] ct (.int (((roundsL row).length : Nat) - 1)) ct := by
  obtain ⟨s1, e1⟩ := check_ok ns row ct h
  obtain ⟨s2, e2⟩ := known_rounds_tells ns row ct h.2.1
  refine tells_fn (g := ⟨[.dat (eT row)], ct⟩) rfl ?_
  have e3 : lenD [.list (eTs (roundsL row))] = some (.int ((roundsL row).length : Nat)) := by
    show some (PyData.int ((eTs (roundsL row)).length : Nat)) = _
    unfold eTs
    rw [List.length_map]
  generalize eTs (roundsL row) = xs at e2 e3
  simp [m_rounds_of_two, e1, e2, e3, -len_L]
/-! the law's own -/
theorem keep_for (row : List Int) (acc : List D) (s0 s4 : DL.Slot) (ct : Int) (hl : row.length ≤ 50) : ∃ t4, (forS (srcA rng1 (consM (opN lenD (consM (getM 2) (pureM []))) (pureM []))) (putM 4)
  (seqM (ifM (andM (asB (op2 gtD (op2 ixD (getM 2) (getM 4)) (op2 ixD (getM 2) (op2 subD (getM 4) (pureM (.int 1)))))) (asB (op2 gtD (op2 ixD (getM 2) (getM 4)) (op2 ixD (getM 2) (op2 modD (op2 addD (getM 4) (pureM (.int 1))) (opN lenD (consM (getM 2) (pureM []))))))))
  (seqM (appM 3 (op2 ixD (getM 2) (getM 4)))
  nextM)
  nextM)
  nextM)) ⟨[s0, .own acc, .dat (eT row), .own [], s4], ct⟩ = .ok .next ⟨[s0, .own acc, .dat (eT row), .own ((roundL row).map PyData.int), t4], ct⟩ := by
  have ef : ((List.range row.length).flatMap fun i => if keepR row i = true then [PyData.int (gI row i)] else []) = (roundL row).map PyData.int := by
    unfold roundL
    induction List.range row.length with
    | nil => rfl
    | cons i r ih =>
      rw [List.flatMap_cons, ih]
      cases hb : keepR row i <;> simp [hb]
  obtain ⟨g', e, t4, rfl⟩ := forM_acc (k := putM 4) (body := (seqM (ifM (andM (asB (op2 gtD (op2 ixD (getM 2) (getM 4)) (op2 ixD (getM 2) (op2 subD (getM 4) (pureM (.int 1)))))) (asB (op2 gtD (op2 ixD (getM 2) (getM 4)) (op2 ixD (getM 2) (op2 modD (op2 addD (getM 4) (pureM (.int 1))) (opN lenD (consM (getM 2) (pureM []))))))))
  (seqM (appM 3 (op2 ixD (getM 2) (getM 4)))
  nextM)
  nextM)
  nextM)) (fun i : Nat => (.int (i : Nat) : D)) (fun xs g => ∃ t4, g = ⟨[s0, .own acc, .dat (eT row), .own xs, t4], ct⟩) (fun i => if keepR row i = true then [PyData.int (gI row i)] else []) 1000 (List.range row.length) (fun i hi xs g ⟨t4, hg⟩ hn => by
    subst hg
    have hi := List.mem_range.mp hi
    refine ⟨_, ?_, .dat (.int (i : Nat)), rfl⟩
    have e0 := ix_row row i hi
    have e1 := ix_before row i hi
    have e2 := modN1 i row.length (by omega)
    have e3 := ix_row row ((i + 1) % row.length) (Nat.mod_lt _ (by omega))
    have hs : xs.length ≤ 1000 := by omega
    have hs : xs.length < sizeLine := small _ (by omega)
    unfold keepR
    generalize (i + 1) % row.length = j at e2 e3 ⊢
    generalize gI row ((i + (row.length - 1)) % row.length) = a at e1 ⊢
    by_cases b : a < gI row i
    · by_cases b2 : gI row j < gI row i
      · simp [e0, e1, e2, e3, b, b2, hs]
      · simp [e0, e1, e2, e3, b, b2]
    · simp [e0, e1, b]) [] ⟨[s0, .own acc, .dat (eT row), .own [], s4], ct⟩ ⟨s4, rfl⟩ (by rw [ef, List.length_map]; have := keep_half row; simp; omega)
  refine ⟨t4, ev_for (g1 := ⟨[s0, .own acc, .dat (eT row), .own [], s4], ct⟩) (xs := (List.range row.length).map fun i : Nat => (.int (i : Nat) : D)) ?_ ?_⟩
  · refine ev_srcA (ds := [.int (row.length : Nat)]) (by simp) ?_
    have := rng1_i (row.length : Nat) (by omega) (by omega)
    rw [this]
    unfold rngI
    simp
  · rw [ef] at e
    exact e
theorem lrounds_loop (s0 : DL.Slot) (ct : Int) : ∀ (k : Nat) (acc : List D) (row : List Int) (s2 s3 s4 : DL.Slot) (N : Nat), row.length ≤ 2 ^ k → row.length ≤ 50 → k < N → acc.length + k ≤ 1000 → ∃ t2 t3 t4,
    whileM N (asB (op2 gtD (opN lenD (consM (ixV 1 (op1 negD (pureM (.int 1)))) (pureM []))) (pureM (.int 1))))
  (seqM (asgM (ixV 1 (op1 negD (pureM (.int 1)))) (putM 2))
  (seqM (asgF (guardL (pureM [])) 3)
  (seqM (forS (srcA rng1 (consM (opN lenD (consM (getM 2) (pureM []))) (pureM []))) (putM 4)
  (seqM (ifM (andM (asB (op2 gtD (op2 ixD (getM 2) (getM 4)) (op2 ixD (getM 2) (op2 subD (getM 4) (pureM (.int 1)))))) (asB (op2 gtD (op2 ixD (getM 2) (getM 4)) (op2 ixD (getM 2) (op2 modD (op2 addD (getM 4) (pureM (.int 1))) (opN lenD (consM (getM 2) (pureM []))))))))
  (seqM (appM 3 (op2 ixD (getM 2) (getM 4)))
  nextM)
  nextM)
  nextM))
  (seqM (appM 1 (opN tupleOfD (consM (getM 3) (pureM []))))
  nextM)))) ⟨[s0, .own (acc ++ [eT row]), s2, s3, s4], ct⟩ = .ok .next ⟨[s0, .own (acc ++ eTs (roundsF k row)), t2, t3, t4], ct⟩
  | 0, acc, row, s2, s3, s4, N + 1, h1, h2, h3, h4 => by
    refine ⟨s2, s3, s4, ?_⟩
    have hx := ix_lastT acc (eT row)
    exact ev_whF (g1 := ⟨[s0, .own (acc ++ [eT row]), s2, s3, s4], ct⟩) (by simp [hx]; omega)
  | k + 1, acc, row, s2, s3, s4, N + 1, h1, h2, h3, h4 => by
    have hx := ix_lastT acc (eT row)
    by_cases b : 1 < row.length
    · have hk := keep_half row
      have hp : 2 ^ (k + 1) = 2 ^ k * 2 := Nat.pow_succ 2 k
      obtain ⟨u4, ef⟩ := keep_for row (acc ++ [eT row]) s0 s4 ct h2
      obtain ⟨t2, t3, t4, e⟩ := lrounds_loop s0 ct k (acc ++ [eT row]) (roundL row) (.dat (eT row)) (.dat (.list ((roundL row).map PyData.int))) u4 N (by omega) (by omega) (by omega) (by rw [List.length_append]; simp; omega)
      refine ⟨t2, t3, t4, ?_⟩
      have er : roundsF (k + 1) row = row :: roundsF k (roundL row) := if_pos b
      rw [er]
      have ea : acc ++ eTs (row :: roundsF k (roundL row)) = acc ++ [eT row] ++ eTs (roundsF k (roundL row)) := by simp [eTs]
      rw [ea]
      refine ev_whT (g1 := ⟨[s0, .own (acc ++ [eT row]), s2, s3, s4], ct⟩) (by simp [hx]; omega) (g2 := ⟨[s0, .own (acc ++ [eT row] ++ [eT (roundL row)]), .dat (eT row), .dat (.list ((roundL row).map PyData.int)), u4], ct⟩) ?_ e
      have hs : (acc ++ [eT row]).length < sizeLine := small _ (by rw [List.length_append]; simp; omega)
      refine ev_next (g1 := ⟨[s0, .own (acc ++ [eT row]), .dat (eT row), s3, s4], ct⟩) (by simp [hx]) (ev_next (g1 := ⟨[s0, .own (acc ++ [eT row]), .dat (eT row), .own [], s4], ct⟩) (by simp) (ev_next ef (ev_next (g1 := ⟨[s0, .own (acc ++ [eT row] ++ [eT (roundL row)]), .dat (eT row), .dat (.list ((roundL row).map PyData.int)), u4], ct⟩) ?_ rfl)))
      exact ev_app (i := 1) (g1 := ⟨[s0, .own (acc ++ [eT row]), .dat (eT row), .dat (.list ((roundL row).map PyData.int)), u4], ct⟩) (xs := acc ++ [eT row]) (xs' := acc ++ [eT row]) (d := eT (roundL row)) rfl rfl rfl hs
    · refine ⟨s2, s3, s4, ?_⟩
      have er : roundsF (k + 1) row = [row] := if_neg b
      rw [er]
      exact ev_whF (g1 := ⟨[s0, .own (acc ++ [eT row]), s2, s3, s4], ct⟩) (by simp [hx]; omega)
theorem L_rounds_tells (ns : List Int) (row : List Int) (ct : Int) (h : row.length ≤ 40) : Tells h_L_rounds ns [.dat (eT row)] ct (.list (eTs (roundsL row))) ct := by
  obtain ⟨t2, t3, t4, e⟩ := lrounds_loop (.dat (eT row)) ct 6 [] row .no .no .no 1000 (by omega) (by omega) (by decide) (by decide)
  refine tells_fn (g := ⟨[.dat (eT row), .dat (.list (eTs (roundsL row))), t2, t3, t4], ct⟩) rfl ?_
  exact ev_next (g1 := ⟨[.dat (eT row), .own [eT row], .no, .no, .no], ct⟩) (by simp) (ev_next e rfl)
end K50

set_option Elab.async false
set_option linter.all false
set_option maxRecDepth 100000
set_option maxHeartbeats 4000000
/-! K50e: the law's own steps, turn by turn. -/
namespace K50
open PySem PySem.Spec L2 DL
theorem ev_lput {i : Nat} {fk fv : M D} {v : D} {s : Nat} {xs ys : List D} {g g1 g2 : Sg} (hv : fv g = .ok v g1) (h1 : g1.sl[i]? = some (.own ys)) (hk : fk g1 = .ok (.int (s : Nat)) g2) (h2 : g2.sl[i]? = some (.own xs)) (hs : s < xs.length) :
    lputM i fk fv g = .ok .next { g2 with sl := g2.sl.set i (.own (xs.set s v)) } := by
  refine ev_bind hv ?_
  rw [h1]
  refine ev_bind hk ?_
  rw [h2]
  have e1 : L2.ixN xs.length (s : Int) = some s := by
    unfold L2.ixN
    rw [if_pos (by omega), if_pos (by omega)]
    rfl
  simp only [e1]
theorem x_ne (i j : Int) : neD (.int i) (.int j) = some (.bool (!(i == j))) := rfl
def vecD (n : Nat) (v : Nat → Nat) : List D := (List.range n).map fun j => eN (v j)
theorem vec_len (n : Nat) (v : Nat → Nat) : (vecD n v).length = n := by unfold vecD; simp
theorem vec_ix (n : Nat) (v : Nat → Nat) (s : Nat) (h : s < n) : L2.atI (vecD n v) (s : Int) = some (eN (v s)) := by
  refine L2.atI_nat ?_
  unfold vecD
  simp [h]
theorem vec_set (n : Nat) (v : Nat → Nat) (s x : Nat) (h : s < n) : (vecD n v).set s (eN x) = vecD n fun j => if j = s then x else v j := by
  unfold vecD
  apply List.ext_getElem?
  intro i
  by_cases hi : i < n
  · by_cases e : s = i
    · subst e
      simp [hi]
    · rw [List.getElem?_set_ne e]
      have e' : ¬ i = s := fun z => e z.symm
      simp [hi, e']
  · simp [hi, Nat.le_of_not_lt hi]
def eM (n t s : Nat) : D := .tuple [.int (s : Nat), .int (((s + t) % n : Nat) : Int)]
def movers (row : List Int) (t : Nat) : List Nat := (List.range row.length).filter fun s => decide (t < farL row s)
abbrev Se (row : List Int) (v : Nat → Nat) (s3 s4 s5 s6 s7 s8 : DL.Slot) (ct : Int) : Sg := ⟨[.dat (eT row), .dat (eN row.length), .own (vecD row.length v), s3, s4, s5, s6, s7, s8, .no], ct⟩
abbrev eBody : M Fl := (seqM (asgM (op2 modD (op2 addD (getM 7) (pureM (.int 1))) (getM 1)) (putM 8))
  (seqM (lputM 2 (getM 6) (op2 addD (ixV 2 (getM 6)) (pureM (.int 1))))
  (seqM (ifM (andM (asB (op2 neD (getM 8) (getM 6))) (asB (op2 gtD (op2 ixD (getM 0) (getM 6)) (op2 ixD (getM 0) (getM 8)))))
  (seqM (appM 5 (tupM (consM (getM 6) (consM (getM 8) (pureM [])))))
  nextM)
  nextM)
  nextM)))
theorem e_turn (row : List Int) (v : Nat → Nat) (t s : Nat) (s3 s4 s6 s7 s8 : DL.Slot) (st : List D) (ct : Int) (h1 : 1 ≤ row.length) (hs : s < row.length) (ht : t < farL row s) (hst : st.length ≤ 1000) :
    ∃ t6 t7 t8, goG (tupG 2 (gConsM (putM 6) (gConsM (putM 7) gNilM)) (eM row.length t s)) eBody (Se row v s3 s4 (.own st) s6 s7 s8 ct) =
      .ok .next (Se row (fun j => if j = s then v s + 1 else v j) s3 s4 (.own (st ++ if decide (t + 1 < farL row s) = true then [eM row.length (t + 1) s] else [])) t6 t7 t8 ct) := by
  have hb := farL_spec (row := row) (i := s) h1
  have hm := farL_more (row := row) (i := s) (t := t) h1 ht
  have em := modN1 ((s + t) % row.length) row.length (by omega)
  have eq : ((s + t) % row.length + 1) % row.length = (s + (t + 1)) % row.length := by
    rw [Nat.mod_add_mod]
    congr 1
  rw [eq] at em
  have hth : (s + (t + 1)) % row.length < row.length := Nat.mod_lt _ (by omega)
  have hself : (s + (t + 1)) % row.length = s ↔ t + 1 = row.length := by
    have hle : t + 1 ≤ row.length := by omega
    constructor
    · intro e
      by_cases hlt : s + (t + 1) < row.length
      · rw [Nat.mod_eq_of_lt hlt] at e
        omega
      · have e2 : (s + (t + 1)) % row.length = (s + (t + 1) - row.length) % row.length := Nat.mod_eq_sub_mod (by omega)
        rw [e2] at e
        by_cases hl2 : s + (t + 1) - row.length < row.length
        · rw [Nat.mod_eq_of_lt hl2] at e
          omega
        · omega
    · intro e
      rw [e, Nat.add_mod_right]
      exact Nat.mod_eq_of_lt hs
  have e0 := ix_row row s hs
  have e3 := ix_row row ((s + (t + 1)) % row.length) hth
  unfold eM
  generalize (s + t) % row.length = here at em
  generalize (s + (t + 1)) % row.length = there at em hth hself e3 hm ⊢
  refine ⟨.dat (eN s), .dat (eN here), .dat (eN there), ?_⟩
  refine ev_go (g1 := Se row v s3 s4 (.own st) (.dat (eN s)) (.dat (eN here)) s8 ct) rfl ?_
  refine ev_next (g1 := Se row v s3 s4 (.own st) (.dat (eN s)) (.dat (eN here)) (.dat (eN there)) ct) (by simp [em]) ?_
  refine ev_next (g1 := Se row (fun j => if j = s then v s + 1 else v j) s3 s4 (.own st) (.dat (eN s)) (.dat (eN here)) (.dat (eN there)) ct) ?_ ?_
  · have hv := vec_ix row.length v s hs
    have hset := vec_set row.length v s (v s + 1) hs
    have := ev_lput (i := 2) (fk := getM 6) (fv := op2 addD (ixV 2 (getM 6)) (pureM (.int 1))) (v := eN (v s + 1)) (s := s) (xs := vecD row.length v) (ys := vecD row.length v) (g := Se row v s3 s4 (.own st) (.dat (eN s)) (.dat (eN here)) (.dat (eN there)) ct) (g1 := Se row v s3 s4 (.own st) (.dat (eN s)) (.dat (eN here)) (.dat (eN there)) ct) (g2 := Se row v s3 s4 (.own st) (.dat (eN s)) (.dat (eN here)) (.dat (eN there)) ct) (by simp [hv]) rfl rfl rfl (by rw [vec_len]; exact hs)
    rw [this, hset]
    rfl
  · have hsz : st.length < sizeLine := small _ (by omega)
    generalize (fun j => if j = s then v s + 1 else v j) = v2
    by_cases a : there = s
    · have hn : ¬ t + 1 < farL row s := by
        rw [hm]
        intro z
        have := hself.mp a
        omega
      have a' : (there : Int) = (s : Int) := by rw [a]
      simp [x_ne, a', hn]
    · have a' : ¬ (there : Int) = (s : Int) := fun z => a (by omega)
      have hlt : t + 1 < row.length := by
        have : t + 1 ≠ row.length := fun z => a (hself.mpr z)
        omega
      by_cases b : gI row there < gI row s
      · have hn : t + 1 < farL row s := hm.mpr ⟨hlt, b⟩
        simp [x_ne, a', e0, e3, b, hn, hsz]
      · have hn : ¬ t + 1 < farL row s := fun z => b (hm.mp z).2
        simp [x_ne, a', e0, e3, b, hn]
/-- a turn of all that move -/
def vIn (row : List Int) (t : Nat) (pre : List Nat) (j : Nat) : Nat := if j ∈ pre then t + 1 else min t (farL row j)
theorem e_inner (row : List Int) (t : Nat) (s3 s4 s6 s7 s8 : DL.Slot) (ct : Int) (h1 : 1 ≤ row.length) (hl : row.length ≤ 50) :
    ∃ g', forM ((movers row t).map (eM row.length t)) (tupG 2 (gConsM (putM 6) (gConsM (putM 7) gNilM))) eBody (Se row (fun j => min t (farL row j)) s3 s4 (.own []) s6 s7 s8 ct) = .ok .next g' ∧
      ∃ t6 t7 t8, g' = Se row (fun j => min (t + 1) (farL row j)) s3 s4 (.own ((movers row (t + 1)).map (eM row.length (t + 1)))) t6 t7 t8 ct := by
  have hnd : (movers row t).Nodup := List.Pairwise.filter _ List.nodup_range
  have hml : (movers row t).length ≤ 50 := Nat.le_trans (List.length_filter_le _ _) (by simp; omega)
  obtain ⟨g', e, pre, u6, u7, u8, hp, hg⟩ := forM_rel (k := tupG 2 (gConsM (putM 6) (gConsM (putM 7) gNilM))) (body := eBody) (enc := eM row.length t) (fun xs g => ∃ pre t6 t7 t8, movers row t = pre ++ xs ∧ g = Se row (vIn row t pre) s3 s4 (.own ((pre.filter fun s => decide (t + 1 < farL row s)).map (eM row.length (t + 1)))) t6 t7 t8 ct) (fun s r g ⟨pre, t6, t7, t8, hp, hg⟩ => by
    subst hg
    have hm : s ∈ movers row t := by rw [hp]; simp
    obtain ⟨hs, ht⟩ := List.mem_filter.mp hm
    have hs := List.mem_range.mp hs
    have ht := of_decide_eq_true ht
    have hpl : pre.length ≤ 50 := by rw [hp] at hml; simp at hml; omega
    have hns : s ∉ pre := by
      intro z
      rw [hp] at hnd
      exact (List.nodup_append.mp hnd).2.2 s z s List.mem_cons_self rfl
    obtain ⟨w6, w7, w8, e⟩ := e_turn row (vIn row t pre) t s s3 s4 t6 t7 t8 ((pre.filter fun s => decide (t + 1 < farL row s)).map (eM row.length (t + 1))) ct h1 hs ht (by
      rw [List.length_map]
      exact Nat.le_trans (List.length_filter_le _ _) (by omega))
    refine ⟨_, e, pre ++ [s], w6, w7, w8, by rw [hp]; simp, ?_⟩
    have ev : (fun j => if j = s then vIn row t pre s + 1 else vIn row t pre j) = vIn row t (pre ++ [s]) := by
      funext j
      unfold vIn
      by_cases e : j = s
      · subst e
        simp [hns]
        omega
      · simp [e]
    have ef : ((pre.filter fun s => decide (t + 1 < farL row s)).map (eM row.length (t + 1))) ++ (if decide (t + 1 < farL row s) = true then [eM row.length (t + 1) s] else []) = ((pre ++ [s]).filter fun s => decide (t + 1 < farL row s)).map (eM row.length (t + 1)) := by
      rw [List.filter_append, List.map_append]
      by_cases b : t + 1 < farL row s <;> simp [b]
    rw [ev, ef]) (movers row t) (Se row (fun j => min t (farL row j)) s3 s4 (.own []) s6 s7 s8 ct) ⟨[], s6, s7, s8, rfl, by
      have : vIn row t [] = fun j => min t (farL row j) := by funext j; simp [vIn]
      rw [this]
      rfl⟩
  refine ⟨g', e, u6, u7, u8, ?_⟩
  rw [hg]
  rw [List.append_nil] at hp
  have e1 : (pre.filter fun s => decide (t + 1 < farL row s)) = movers row (t + 1) := by
    rw [← hp]
    unfold movers
    rw [List.filter_filter]
    congr 1
    funext s
    by_cases b : t + 1 < farL row s
    · have b2 : t < farL row s := by omega
      simp [b, b2]
    · simp [b]
  have e2 : vecD row.length (vIn row t pre) = vecD row.length fun j => min (t + 1) (farL row j) := by
    unfold vecD
    apply List.map_congr_left
    intro j hj
    have hv : vIn row t pre j = min (t + 1) (farL row j) := by
      unfold vIn
      by_cases b : t < farL row j
      · have : j ∈ pre := by rw [← hp]; exact List.mem_filter.mpr ⟨hj, decide_eq_true b⟩
        rw [if_pos this]
        omega
      · have : j ∉ pre := by
          rw [← hp]
          intro z
          exact b (of_decide_eq_true (List.mem_filter.mp z).2)
        rw [if_neg this]
        omega
    show eN (vIn row t pre j) = eN (min (t + 1) (farL row j))
    rw [hv]
  unfold Se
  rw [e1, e2]
theorem rep_zero (n : Nat) : (List.replicate n [PyData.int 0]).flatten = vecD n fun _ => 0 := by
  unfold vecD
  induction n with
  | zero => rfl
  | succ n ih =>
    rw [List.replicate_succ', List.flatten_append, ih, List.range_succ, List.map_append]
    rfl
theorem repD_if (xs : List D) (n : Int) (h : -(2 ^ 63) ≤ n ∧ n < 2 ^ 63 ∧ xs.length * n.toNat ≤ sizeLine) : repD (.list xs) (.int n) = some (List.replicate n.toNat xs).flatten := if_pos h
theorem repD_eq (xs : List D) (n : Nat) (h : n ≤ 1000) (h2 : xs.length * n ≤ 1000000) : repD (.list xs) (.int (n : Nat)) = some (List.replicate n xs).flatten := by
  have h3 : (0 : Int) ≤ (n : Nat) := by omega
  have h4 : ((n : Nat) : Int) ≤ 1000 := by omega
  exact repD_if xs (n : Nat) ⟨Int.le_trans (by decide) h3, Int.lt_of_le_of_lt h4 (by decide), size_le _ h2⟩
theorem ev_liftO {α : Type} {o : Option α} {a : α} {g : Sg} (h : o = some a) : liftO o g = .ok a g := by subst h; rfl
theorem rep_vec (n : Nat) (h : n ≤ 1000) : repD (.list [.int 0]) (.int (n : Nat)) = some (vecD n fun _ => 0) := by
  have e3 := repD_eq [PyData.int 0] n h (by simp; omega)
  rw [rep_zero] at e3
  exact e3
theorem rng_nat (n : Nat) (h : n ≤ 1000) : rng1 [.int (n : Nat)] = some ((List.range n).map fun i : Nat => (.int (i : Nat) : D)) := by
  rw [rng1_i (n : Nat) (by omega) (by omega)]
  unfold rngI
  simp
theorem L_steps_tells (ns : List Int) (row : List Int) (ct : Int) (h1 : 1 ≤ row.length) (hl : row.length ≤ 50) : Tells h_L_steps ns [.dat (eT row)] ct (.list ((stepsL row).map eN)) ct := by
  obtain ⟨g', e, t, s4, s5, s6, s7, s8, ht, hg⟩ := forM_rel (k := putM 4) (body := (seqM (asgF (guardL (pureM [])) 5)
  (seqM (forS (srcM (getM 3)) (tupG 2 (gConsM (putM 6) (gConsM (putM 7) gNilM))) eBody)
  (seqM (asgM (getM 5) (putM 3))
  nextM)))) (enc := fun i : Nat => (.int (i : Nat) : D)) (fun (xs : List Nat) g => ∃ t s4 s5 s6 s7 s8, t + xs.length = row.length ∧ g = Se row (fun j => min t (farL row j)) (.dat (.list ((movers row t).map (eM row.length t)))) s4 s5 s6 s7 s8 ct) (fun x r g ⟨t, s4, s5, s6, s7, s8, ht, hg⟩ => by
    subst hg
    rw [List.length_cons] at ht
    obtain ⟨g1, e1, t6, t7, t8, hg1⟩ := e_inner row t (.dat (.list ((movers row t).map (eM row.length t)))) (.dat (.int (x : Nat))) s6 s7 s8 ct h1 hl
    subst hg1
    refine ⟨_, ?_, t + 1, .dat (.int (x : Nat)), .dat (.list ((movers row (t + 1)).map (eM row.length (t + 1)))), t6, t7, t8, by omega, rfl⟩
    refine ev_go (g1 := Se row (fun j => min t (farL row j)) (.dat (.list ((movers row t).map (eM row.length t)))) (.dat (.int (x : Nat))) s5 s6 s7 s8 ct) rfl ?_
    refine ev_next (g1 := Se row (fun j => min t (farL row j)) (.dat (.list ((movers row t).map (eM row.length t)))) (.dat (.int (x : Nat))) (.own []) s6 s7 s8 ct) (by simp) ?_
    exact ev_next (ev_for (xs := (movers row t).map (eM row.length t)) (g1 := Se row (fun j => min t (farL row j)) (.dat (.list ((movers row t).map (eM row.length t)))) (.dat (.int (x : Nat))) (.own []) s6 s7 s8 ct) (by simp) e1) rfl) (List.range row.length) (Se row (fun j => min 0 (farL row j)) (.dat (.list ((movers row 0).map (eM row.length 0)))) .no .no .no .no .no ct) ⟨0, .no, .no, .no, .no, .no, by simp, rfl⟩
  rw [List.length_nil, Nat.add_zero] at ht
  subst ht
  have ev : vecD row.length (fun j => min row.length (farL row j)) = (stepsL row).map eN := by
    unfold vecD stepsL
    rw [List.map_map]
    apply List.map_congr_left
    intro j hj
    show eN (min row.length (farL row j)) = eN (farL row j)
    have := (farL_spec (row := row) (i := j) h1).2.1
    congr 1
    omega
  have e0 : movers row 0 = List.range row.length := by
    unfold movers
    rw [List.filter_eq_self]
    intro j hj
    have := (farL_spec (row := row) (i := j) h1).1
    exact decide_eq_true (by omega)
  have em : (movers row 0).map (eM row.length 0) = (List.range row.length).map fun k : Nat => PyData.tuple [.int (k : Nat), .int (k : Nat)] := by
    rw [e0]
    apply List.map_congr_left
    intro j hj
    unfold eM
    rw [Nat.add_zero, Nat.mod_eq_of_lt (List.mem_range.mp hj)]
  have er := rng_nat row.length (by omega)
  let G1 : Sg := ⟨[.dat (eT row), .dat (eN row.length), .no, .no, .no, .no, .no, .no, .no, .no], ct⟩
  let G2 : Sg := ⟨[.dat (eT row), .dat (eN row.length), .own (vecD row.length fun _ => 0), .no, .no, .no, .no, .no, .no, .no], ct⟩
  refine tells_fn (g := ⟨[.dat (eT row), .dat (eN row.length), .dat (.list ((stepsL row).map eN)), .dat (.list ((movers row row.length).map (eM row.length row.length))), s4, s5, s6, s7, s8, .no], ct⟩) rfl ?_
  refine ev_next (g1 := G1) (by simp [G1]) (ev_next (g1 := G2) ?_ (ev_next (g1 := Se row (fun j => min 0 (farL row j)) (.dat (.list ((movers row 0).map (eM row.length 0)))) .no .no .no .no .no ct) ?_ (ev_next (ev_for (xs := (List.range row.length).map fun i : Nat => (.int (i : Nat) : D)) (g1 := Se row (fun j => min 0 (farL row j)) (.dat (.list ((movers row 0).map (eM row.length 0)))) .no .no .no .no .no ct) ?_ e) ?_)))
  · refine ev_bind (a := vecD row.length fun _ => 0) (g1 := G1) ?_ rfl
    refine ev_bind (a := .list [.int 0]) (g1 := G1) (by simp [G1]) (ev_bind (a := .int (row.length : Nat)) (g1 := G1) rfl ?_)
    exact ev_liftO (rep_vec row.length (by omega))
  · refine ev_asg (g1 := G2) (d := .list ((movers row 0).map (eM row.length 0))) (ev_lst ?_) ?_
    · rw [em]
      exact lcTm (g1 := G2) (fun i : Nat => (.int (i : Nat) : D)) (List.range row.length) _ (ev_srcA (ds := [.int (row.length : Nat)]) rfl er) (fun x hx => ⟨⟨[.dat (eT row), .dat (eN row.length), .own (vecD row.length fun _ => 0), .no, .no, .no, .no, .no, .no, .dat (.int (x : Nat))], ct⟩, ⟨[.dat (eT row), .dat (eN row.length), .own (vecD row.length fun _ => 0), .no, .no, .no, .no, .no, .no, .dat (.int (x : Nat))], ct⟩, rfl, by simp, rfl⟩) (size_le _ (by simp; omega))
    · have : (fun j => min 0 (farL row j)) = fun _ => 0 := by funext j; simp
      rw [this]
      rfl
  · exact ev_srcA (ds := [.int (row.length : Nat)]) rfl er
  · rw [hg, ← ev]
    rfl
end K50

set_option Elab.async false
set_option linter.all false
set_option maxRecDepth 100000
set_option maxHeartbeats 4000000
/-! K50f: all orders. -/
namespace K50
open PySem PySem.Spec L2 DL
def nextO (m : Int) (ws : List (List Int)) : List (List Int) := ws.flatMap fun u => ((rngI 0 m).filter fun z => !u.contains z).map fun z => u ++ [z]
def ordersN (m : Int) : Nat → List (List Int)
  | 0 => [[m - 1]]
  | n + 1 => nextO m (ordersN m n)
def sizes : List Int := [1, 2, 3, 4, 5, 6, 7]
theorem orders_ok : ∀ m ∈ sizes, ∀ n ∈ List.range 7, (n : Int) < m → (ordersN m n).length ≤ 720 ∧ ∀ w ∈ ordersN m n, w.length = n + 1 := by decide +kernel
def dO (ws : List (List Int)) : DL.Slot := .dat (.list (ws.map eT))
theorem orders_turn (m ct : Int) (hm0 : 0 ≤ m) (hm : m ≤ 7) (k : D) (s2 : DL.Slot) (ws : List (List Int)) (h1 : ws.length ≤ 1000) (h2 : ∀ u ∈ ws, u.length ≤ 1000) :
    goG (putM 2 k) (seqM (asgM (lstM (lc2M (srcM (getM 1)) (putM 3) yesM (srcA rng1 (consM (getM 0) (pureM []))) (putM 4) (asB (op2 (inD true) (getM 4) (getM 3))) (tupM (starM (getM 3) (consM (getM 4) (pureM [])))) [3, 4] [4])) (putM 1)) nextM)
      ⟨[.dat (.int m), dO ws, s2, .no, .no], ct⟩ = .ok .next ⟨[.dat (.int m), dO (nextO m ws), .dat k, .no, .no], ct⟩ := by
  let G : Sg := ⟨[.dat (.int m), dO ws, .dat k, .no, .no], ct⟩
  refine ev_go (g1 := G) rfl (ev_next (g1 := ⟨[.dat (.int m), dO (nextO m ws), .dat k, .no, .no], ct⟩) (ev_asg (g1 := G) (d := .list ((nextO m ws).map eT)) (ev_lst ?_) rfl) rfl)
  have h := lc2T (src := srcM (getM 1)) (k := putM 3) (src1 := srcA rng1 (consM (getM 0) (pureM []))) (k1 := putM 4) (c1 := asB (op2 (inD true) (getM 4) (getM 3))) (e := tupM (starM (getM 3) (consM (getM 4) (pureM [])))) (vs := [3, 4]) (vs1 := [4]) (g := G) (g1 := G)
      eT PyData.int ws (fun _ => rngI 0 m) (fun u x => !u.contains x) (fun u x => eT (u ++ [x])) rfl (fun u hu => by
        let G3 : Sg := ⟨[.dat (.int m), dO ws, .dat k, .dat (eT u), .no], ct⟩
        refine ⟨G3, G3, rfl, ev_srcA (ds := [.int m]) rfl (rng1_i m (by omega) (by omega)), rfl, fun x hx => ?_⟩
        let G4 : Sg := ⟨[.dat (.int m), dO ws, .dat k, .dat (eT u), .dat (.int x)], ct⟩
        refine ⟨G4, G4, rfl, ev_asB (ev_op2 (g2 := G4) rfl rfl ((in_T true x u).trans (by rw [Bool.true_bne]))), fun _ => rfl, fun _ => ⟨G4, ?_, rfl⟩⟩
        have hl := h2 u hu
        have := ev_tup (f := starM (getM 3) (consM (getM 4) (pureM []))) (g := G4) (g1 := G4) (ds := u.map PyData.int ++ [.int x]) (ev_star (g1 := G4) (d := eT u) rfl rfl rfl) (size_le _ (by simp; omega))
        rw [this]
        show Res.ok (PyData.tuple _) _ = Res.ok (PyData.tuple _) _
        rw [List.map_append]
        rfl) (by rw [sum_const, len_rngI]; exact size_le _ (Nat.le_trans (Nat.mul_le_mul h1 (show (m - 0).toNat ≤ 7 by omega)) (by decide)))
  rw [h]
  show Res.ok _ _ = Res.ok _ _
  congr 1
  unfold nextO
  rw [List.map_flatMap]
  congr 1
  funext u
  rw [List.map_map]
  rfl
theorem orders_loop (m ct : Int) (hm : m ∈ sizes) : ∀ (xs : List D) (n : Nat) (s2 : DL.Slot), ((n + xs.length : Nat) : Int) = m - 1 → ∃ t2,
    forM xs (putM 2) (seqM (asgM (lstM (lc2M (srcM (getM 1)) (putM 3) yesM (srcA rng1 (consM (getM 0) (pureM []))) (putM 4) (asB (op2 (inD true) (getM 4) (getM 3))) (tupM (starM (getM 3) (consM (getM 4) (pureM [])))) [3, 4] [4])) (putM 1)) nextM)
      ⟨[.dat (.int m), dO (ordersN m n), s2, .no, .no], ct⟩ = .ok .next ⟨[.dat (.int m), dO (ordersN m (n + xs.length)), t2, .no, .no], ct⟩
  | [], n, s2, h => ⟨s2, rfl⟩
  | x :: r, n, s2, h => by
    rw [List.length_cons] at h
    have hb : 1 ≤ m ∧ m ≤ 7 := by simp [sizes] at hm; omega
    obtain ⟨f1, f2⟩ := orders_ok m hm n (List.mem_range.mpr (by omega)) (by omega)
    have e := orders_turn m ct (by omega) hb.2 x s2 (ordersN m n) (by omega) (fun u hu => by rw [f2 u hu]; omega)
    obtain ⟨t2, e2⟩ := orders_loop m ct hm r (n + 1) (.dat x) (by omega)
    refine ⟨t2, ?_⟩
    have e3 : ∀ g, forM (x :: r) (putM 2) (seqM (asgM (lstM (lc2M (srcM (getM 1)) (putM 3) yesM (srcA rng1 (consM (getM 0) (pureM []))) (putM 4) (asB (op2 (inD true) (getM 4) (getM 3))) (tupM (starM (getM 3) (consM (getM 4) (pureM [])))) [3, 4] [4])) (putM 1)) nextM) g = (goG (putM 2 x) (seqM (asgM (lstM (lc2M (srcM (getM 1)) (putM 3) yesM (srcA rng1 (consM (getM 0) (pureM []))) (putM 4) (asB (op2 (inD true) (getM 4) (getM 3))) (tupM (starM (getM 3) (consM (getM 4) (pureM [])))) [3, 4] [4])) (putM 1)) nextM) g).bind fun f => match f with
      | .next => forM r (putM 2) (seqM (asgM (lstM (lc2M (srcM (getM 1)) (putM 3) yesM (srcA rng1 (consM (getM 0) (pureM []))) (putM 4) (asB (op2 (inD true) (getM 4) (getM 3))) (tupM (starM (getM 3) (consM (getM 4) (pureM [])))) [3, 4] [4])) (putM 1)) nextM)
      | .cont => forM r (putM 2) (seqM (asgM (lstM (lc2M (srcM (getM 1)) (putM 3) yesM (srcA rng1 (consM (getM 0) (pureM []))) (putM 4) (asB (op2 (inD true) (getM 4) (getM 3))) (tupM (starM (getM 3) (consM (getM 4) (pureM [])))) [3, 4] [4])) (putM 1)) nextM)
      | .brk => nextM
      | .ret d => pureM (.ret d) := fun g => rfl
    rw [e3, e]
    have en : n + (x :: r).length = n + 1 + r.length := by rw [List.length_cons]; omega
    rw [en]
    exact e2
def ordersL (m : Int) : List (List Int) := ordersN m (m - 1).toNat
theorem all_tells (ns : List Int) (m ct : Int) (hm : m ∈ sizes) : Tells h_all_orders ns [.dat (.int m)] ct (.list ((ordersL m).map eT)) ct := by
  have hb : 1 ≤ m ∧ m ≤ 7 := by simp [sizes] at hm; omega
  have hl : ((rngI 0 (m - 1)).map PyData.int).length = (m - 1).toNat := by rw [List.length_map, len_rngI]; omega
  obtain ⟨t2, e⟩ := orders_loop m ct hm ((rngI 0 (m - 1)).map PyData.int) 0 .no (by rw [hl]; omega)
  rw [hl, Nat.zero_add] at e
  refine tells_fn (g := ⟨[.dat (.int m), dO (ordersL m), t2, .no, .no], ct⟩) rfl ?_
  refine ev_next (g1 := ⟨[.dat (.int m), dO (ordersN m 0), .no, .no, .no], ct⟩) (by simp [dO, ordersN]) (ev_next (ev_for (xs := (rngI 0 (m - 1)).map PyData.int) (g1 := ⟨[.dat (.int m), dO (ordersN m 0), .no, .no, .no], ct⟩) (ev_srcA (ds := [.int (m - 1)]) rfl (rng1_i (m - 1) (by omega) (by omega))) e) rfl)
/-! the law's own -/
theorem nextO_cons (m : Int) (w : List Int) (r : List (List Int)) : nextO m (w :: r) = (((rngI 0 m).filter fun z => !w.contains z).map fun z => w ++ [z]) ++ nextO m r := rfl
theorem nextO_len {m : Int} (hm : m ≤ 7) (ws : List (List Int)) : (nextO m ws).length ≤ ws.length * 7 := by
  induction ws with
  | nil => exact Nat.zero_le _
  | cons w r ih =>
    rw [nextO_cons, List.length_append, List.length_map, List.length_cons, Nat.succ_mul]
    have := List.length_filter_le (fun z => !w.contains z) (rngI 0 m)
    rw [len_rngI] at this
    omega
abbrev lIn : M Fl := (seqM (asgM (op2 addD (getM 3) (lstM (lcM (srcA rng1 (consM (getM 0) (pureM []))) (putM 5) (asB (op2 (inD true) (getM 5) (getM 4))) (op2 addD (getM 4) (tupM (consM (getM 5) (pureM [])))) [5]))) (putM 3))
  nextM)
theorem lall_in (m : Int) (s1 s2 : DL.Slot) (s4 : DL.Slot) (ct : Int) (hm0 : 0 ≤ m) (hm : m ≤ 7) (ws : List (List Int)) (h1 : ws.length ≤ 1000) (h2 : ∀ w ∈ ws, w.length ≤ 1000) :
    ∃ t4, forM (ws.map eT) (putM 4) lIn ⟨[.dat (.int m), s1, s2, dO [], s4, .no], ct⟩ = .ok .next ⟨[.dat (.int m), s1, s2, dO (nextO m ws), t4, .no], ct⟩ := by
  have hlen := nextO_len hm ws
  obtain ⟨g', hf, acc, t4, hg, hi, _⟩ := forM_rel (k := putM 4) (body := lIn) (enc := eT)
    (fun r g => ∃ (acc : List (List Int)) (s : DL.Slot), g = ⟨[.dat (.int m), s1, s2, dO acc, s, .no], ct⟩ ∧ acc ++ nextO m r = nextO m ws ∧ ∀ w ∈ r, w.length ≤ 1000) (fun w r g hI => by
      obtain ⟨acc, s, rfl, hi, hr⟩ := hI
      have hw := hr w List.mem_cons_self
      rw [nextO_cons, ← List.append_assoc] at hi
      refine ⟨⟨[.dat (.int m), s1, s2, dO (acc ++ (((rngI 0 m).filter fun z => !w.contains z).map fun z => w ++ [z])), .dat (eT w), .no], ct⟩, ?_, _, _, rfl, hi, fun u hu => hr u (List.mem_cons_of_mem _ hu)⟩
      let S : Sg := ⟨[.dat (.int m), s1, s2, dO acc, .dat (eT w), .no], ct⟩
      refine ev_go (g1 := S) rfl (ev_next (ev_asg (g1 := S) (d := .list ((acc ++ (((rngI 0 m).filter fun z => !w.contains z).map fun z => w ++ [z])).map eT)) (ev_op2 (g1 := S) (g2 := S) (x := .list (acc.map eT)) (y := .list ((((rngI 0 m).filter fun z => !w.contains z).map fun z => w ++ [z]).map eT)) rfl (ev_lst ?_) ?_) rfl) rfl)
      · rw [List.map_map]
        refine lcT (g1 := S) PyData.int (rngI 0 m) (fun z => !w.contains z) (fun z => eT (w ++ [z])) (ev_srcA (ds := [.int m]) rfl (rng1_i m (by omega) (by omega))) (fun x hx => ?_) (size_le _ (by rw [len_rngI]; omega))
        let S3 : Sg := ⟨[.dat (.int m), s1, s2, dO acc, .dat (eT w), .dat (.int x)], ct⟩
        refine ⟨S3, S3, rfl, ev_asB (ev_op2 (g2 := S3) rfl rfl ((in_T true x w).trans (by rw [Bool.true_bne]))), fun _ => rfl, fun _ => ⟨S3, ?_, rfl⟩⟩
        exact ev_op2 (g1 := S3) (g2 := S3) (x := eT w) (y := eT [x]) rfl (ev_tup (ds := [.int x]) rfl sz1) (add_T (size_le _ (by simp; omega)))
      · rw [List.map_append]
        refine add_L (size_le _ ?_)
        have : (acc ++ (((rngI 0 m).filter fun z => !w.contains z).map fun z => w ++ [z])).length ≤ (nextO m ws).length := by rw [← hi, List.length_append (bs := nextO m r)]; exact Nat.le_add_right _ _
        rw [List.length_append] at this
        rw [List.length_map, List.length_map]
        omega) ws ⟨[.dat (.int m), s1, s2, dO [], s4, .no], ct⟩ ⟨[], s4, rfl, rfl, h2⟩
  have hi : acc = nextO m ws := by simpa [nextO] using hi
  subst hi
  rw [hg] at hf
  exact ⟨t4, hf⟩
theorem L_all_tells (ns : List Int) (m ct : Int) (hm : m ∈ sizes) : Tells h_L_all ns [.dat (.int m)] ct (.list ((ordersL m).map eT)) ct := by
  have hb : 1 ≤ m ∧ m ≤ 7 := by simp [sizes] at hm; omega
  obtain ⟨g', e, n, t2, t3, t4, hn, hg⟩ := forM_rel (k := putM 2) (body := (seqM (asgM (lstM (guardL (pureM []))) (putM 3))
  (seqM (forS (srcM (getM 1)) (putM 4) lIn)
  (seqM (asgM (getM 3) (putM 1))
  nextM)))) (enc := PyData.int) (fun xs g => ∃ (n : Nat) (t2 t3 t4 : DL.Slot), ((n + xs.length : Nat) : Int) = m - 1 ∧ g = ⟨[.dat (.int m), dO (ordersN m n), t2, t3, t4, .no], ct⟩) (fun x r g ⟨n, t2, t3, t4, hn, hg⟩ => by
    subst hg
    rw [List.length_cons] at hn
    obtain ⟨f1, f2⟩ := orders_ok m hm n (List.mem_range.mpr (by omega)) (by omega)
    obtain ⟨u4, e⟩ := lall_in m (dO (ordersN m n)) (.dat (.int x)) t4 ct (by omega) hb.2 (ordersN m n) (by omega) (fun u hu => by rw [f2 u hu]; omega)
    refine ⟨⟨[.dat (.int m), dO (ordersN m (n + 1)), .dat (.int x), dO (ordersN m (n + 1)), u4, .no], ct⟩, ?_, n + 1, _, _, _, by omega, rfl⟩
    refine ev_go (g1 := ⟨[.dat (.int m), dO (ordersN m n), .dat (.int x), t3, t4, .no], ct⟩) rfl (ev_next (g1 := ⟨[.dat (.int m), dO (ordersN m n), .dat (.int x), dO [], t4, .no], ct⟩) (by simp [dO]) (ev_next (ev_for (xs := (ordersN m n).map eT) (g1 := ⟨[.dat (.int m), dO (ordersN m n), .dat (.int x), dO [], t4, .no], ct⟩) rfl e) rfl))) (rngI 0 (m - 1)) ⟨[.dat (.int m), dO (ordersN m 0), .no, .no, .no, .no], ct⟩ ⟨0, .no, .no, .no, by rw [len_rngI]; omega, rfl⟩
  subst hg
  have hn' : n = (m - 1).toNat := by rw [List.length_nil] at hn; omega
  refine tells_fn (g := ⟨[.dat (.int m), dO (ordersL m), t2, t3, t4, .no], ct⟩) rfl ?_
  refine ev_next (g1 := ⟨[.dat (.int m), dO (ordersN m 0), .no, .no, .no, .no], ct⟩) (by simp [dO, ordersN]) (ev_next (ev_for (xs := (rngI 0 (m - 1)).map PyData.int) (g1 := ⟨[.dat (.int m), dO (ordersN m 0), .no, .no, .no, .no], ct⟩) (ev_srcA (ds := [.int (m - 1)]) rfl (rng1_i (m - 1) (by omega) (by omega))) e) ?_)
  rw [hn']
  rfl
end K50

set_option Elab.async false
set_option linter.all false
set_option maxRecDepth 100000
set_option maxHeartbeats 4000000
/-! K50g: how many rings have so many messages. -/
namespace K50
open PySem PySem.Spec L2 DL
def sumI (w : List Int) : Int := ((stepsL w).sum : Nat)
def cntsL (m : Int) : List Int := (ordersL m).map sumI
theorem sz_bounds {m : Int} (hm : m ∈ sizes) : 1 ≤ m ∧ m ≤ 7 := by simp [sizes] at hm; omega
theorem ordersL_ok {m : Int} (hm : m ∈ sizes) : (ordersL m).length ≤ 720 ∧ ∀ w ∈ ordersL m, w.length = m.toNat := by
  have hb := sz_bounds hm
  obtain ⟨f1, f2⟩ := orders_ok m hm (m - 1).toNat (List.mem_range.mpr (by omega)) (by omega)
  exact ⟨f1, fun w hw => by have := f2 w hw; omega⟩
theorem cnts_len {m : Int} (hm : m ∈ sizes) : (cntsL m).length ≤ 720 := by unfold cntsL; rw [List.length_map]; exact (ordersL_ok hm).1
theorem known_sum (ns : List Int) (w : List Int) (ct : Int) (hl : w.length ≤ 50) : ∃ sl, h_known_steps ns [.dat (eT w)] ct = .ok (.list ((stepsL w).map eN)) ⟨sl, ct⟩ := known_tells ns w ct hl
theorem count_filter (xs : List (List Int)) (c : Int) : (xs.filter fun w => sumI w == c).length = (xs.map sumI).count c := by
  induction xs with
  | nil => rfl
  | cons w r ih =>
    rw [List.map_cons, List.count_cons, ← ih]
    cases hb : sumI w == c
    · rw [List.filter_cons_of_neg (by simp [hb])]; simp
    · rw [List.filter_cons_of_pos (by simp [hb])]; simp
theorem orders_with_tells (ns : List Int) (m c ct : Int) (hm : m ∈ sizes) : Tells h_orders_with ns [.dat (.int m), .dat (.int c)] ct (eN ((cntsL m).count c)) ct := by
  have hb := sz_bounds hm
  obtain ⟨f1, f2⟩ := ordersL_ok hm
  obtain ⟨s1, e1⟩ := check_many_ok ns m 7 ct hb.1 hb.2
  have ea := all_tells ns m ct hm
  let G : Sg := ⟨[.dat (.int m), .dat (.int c), .no], ct⟩
  refine tells_fn (g := G) rfl (ev_next (g1 := G) (by simp [G, e1]) (ev_stop (ev_ret (ev_opN (g1 := G) (xs := [.list (((ordersL m).filter fun w => sumI w == c).map eT)]) (ev_cons (g1 := G) (ev_lst ?_) rfl) ?_)) (fun z => nomatch z)))
  · refine lcT (g1 := G) eT (ordersL m) (fun w => sumI w == c) eT ?_ (fun w hw => ?_) (size_le _ (by omega))
    · refine ev_bind (a := .list ((ordersL m).map eT)) (g1 := G) ?_ rfl
      exact ev_call (g1 := G) (ss := [.dat (.int m)]) rfl ea
    · let G3 : Sg := ⟨[.dat (.int m), .dat (.int c), .dat (eT w)], ct⟩
      refine ⟨G3, G3, rfl, ?_, fun _ => rfl, fun _ => ⟨G3, rfl, rfl⟩⟩
      have ew := known_tells ns w ct (by rw [f2 w hw]; omega)
      exact ev_asB (ev_op2 (g1 := G3) (g2 := G3) (x := .int (sumI w)) (y := .int c) (ev_opN (g1 := G3) (xs := [.list ((stepsL w).map eN)]) (ev_cons (g1 := G3) (ev_call (g1 := G3) (ss := [.dat (eT w)]) rfl ew) rfl) (sum_steps (stepsL w))) rfl (eqv_int _ _))
  · have e3 : lenD [.list (((ordersL m).filter fun w => sumI w == c).map eT)] = some (.int (((ordersL m).filter fun w => sumI w == c).map eT).length) := rfl
    rw [e3, List.length_map, count_filter]
    rfl
/-! the dict of how many -/
structure KI (kvs : List (Key × D)) (pre : List Int) : Prop where
  keys : ∃ l : List Int, kvs.map (·.1) = l.map Sum.inl ∧ l.Nodup ∧ ∀ c, c ∈ l ↔ c ∈ pre
  val : ∀ c : Int, valD kvs (Sum.inl c : Key) = if c ∈ pre then some (eN (pre.count c)) else none
theorem put_keys {κ : Type} [DecidableEq κ] (kvs : List (κ × D)) (k : κ) (v : D) : (putD kvs k v).map (·.1) = if k ∈ kvs.map (·.1) then kvs.map (·.1) else kvs.map (·.1) ++ [k] := by
  unfold putD
  by_cases h : (kvs.any fun kv => decide (kv.1 = k)) = true
  · rw [if_pos h]
    have hm : k ∈ kvs.map (·.1) := by
      obtain ⟨kv, h1, h2⟩ := List.any_eq_true.mp h
      exact List.mem_map.mpr ⟨kv, h1, of_decide_eq_true h2⟩
    rw [if_pos hm, List.map_map]
    apply List.map_congr_left
    intro kv _
    show (if kv.1 = k then (kv.1, v) else kv).1 = kv.1
    split <;> rfl
  · rw [if_neg h]
    have hm : ¬ k ∈ kvs.map (·.1) := by
      intro z
      obtain ⟨kv, h1, h2⟩ := List.mem_map.mp z
      exact h (List.any_eq_true.mpr ⟨kv, h1, decide_eq_true h2⟩)
    rw [if_neg hm, List.map_append]
    rfl
theorem KI.put {kvs : List (Key × D)} {pre : List Int} (h : KI kvs pre) (c : Int) : KI (putD kvs (Sum.inl c : Key) (eN (pre.count c + 1))) (pre ++ [c]) := by
  obtain ⟨⟨l, h1, h2, h3⟩, h4⟩ := h
  constructor
  · have hk := put_keys kvs (Sum.inl c : Key) (eN (pre.count c + 1))
    rw [h1] at hk
    by_cases hc : c ∈ l
    · rw [if_pos (List.mem_map.mpr ⟨c, hc, rfl⟩)] at hk
      refine ⟨l, hk, h2, fun z => ?_⟩
      rw [h3 z, List.mem_append, List.mem_singleton]
      exact ⟨.inl, fun w => w.elim id fun e => e ▸ (h3 c).mp hc⟩
    · rw [if_neg (fun z => by
        obtain ⟨a, ha, e⟩ := List.mem_map.mp z
        have : a = c := by injection e
        exact hc (this ▸ ha))] at hk
      refine ⟨l ++ [c], by rw [hk, List.map_append]; rfl, ?_, fun z => ?_⟩
      · rw [List.nodup_append]
        refine ⟨h2, by simp, fun a ha b hb e => ?_⟩
        rw [List.mem_singleton] at hb
        exact hc (hb ▸ e ▸ ha)
      · rw [List.mem_append, List.mem_append, h3 z]
  · intro z
    rw [val_put]
    by_cases e : c = z
    · subst e
      rw [if_pos rfl, if_pos (by simp)]
      congr 2
      simp
    · rw [if_neg (fun w => e (by injection w)), h4 z]
      have e' : ¬ z = c := fun w => e w.symm
      by_cases hz : z ∈ pre
      · rw [if_pos hz, if_pos (by simp [hz])]
        congr 2
        rw [List.count_append, List.count_singleton]
        simp [e]
      · rw [if_neg hz, if_neg (by simp [hz, e'])]
theorem KI.nil : KI [] [] := ⟨⟨[], rfl, List.nodup_nil, fun _ => Iff.rfl⟩, fun _ => rfl⟩
theorem keyInts_of : ∀ {kvs : List (Key × D)} {l : List Int}, kvs.map (·.1) = l.map Sum.inl → keyInts kvs = some l
  | [], [], _ => rfl
  | [], _ :: _, h => by cases h
  | _ :: _, [], h => by cases h
  | (k, d) :: r, x :: l, h => by
    rw [List.map_cons, List.map_cons] at h
    have h1 : k = Sum.inl x := by injection h
    have h2 : r.map (·.1) = l.map Sum.inl := by injection h
    subst h1
    show (keyInts r).map (fun l => x :: l) = _
    rw [keyInts_of h2]
    rfl
theorem isort_strict {l : List Int} (h : l.Nodup) : (isort l).Pairwise (· < ·) := by
  have h1 := isort_sorted l
  have h2 : (isort l).Nodup := (isort_perm l).nodup_iff.mpr h
  exact List.Pairwise.imp₂ (fun a b hab hne => by omega) h1 h2
theorem KI.sorted {kvs : List (Key × D)} {pre : List Int} (h : KI kvs pre) : ∃ l, keyInts kvs = some l ∧ isort l = isort (once pre) ∧ l.length = (once pre).length := by
  obtain ⟨⟨l, h1, h2, h3⟩, _⟩ := h
  have e : isort l = isort (once pre) := strict_uniq (isort_strict h2) (sort_once pre) fun k => by
    rw [(isort_perm l).mem_iff, (isort_perm (once pre)).mem_iff, once_mem, h3 k]
  refine ⟨l, keyInts_of h1, e, ?_⟩
  rw [← (isort_perm l).length_eq, e, (isort_perm (once pre)).length_eq]
end K50

set_option Elab.async false
set_option linter.all false
set_option maxRecDepth 100000
set_option maxHeartbeats 4000000
/-! K50h: the mean; the spread. -/
namespace K50
open PySem PySem.Spec L2 DL
def eucF : Nat → Int → Int → Int
  | 0, a, _ => a
  | k + 1, a, b => if 0 < b then eucF k b (a.fmod b) else a
def eucOk : Nat → Int → Int → Bool
  | 0, _, b => !decide (0 < b)
  | k + 1, a, b => if 0 < b then eucOk k b (a.fmod b) else true
theorem modI {i j : Int} (h : 0 < j) : modD (.int i) (.int j) = some (.int (i.fmod j)) := if_pos (decide_eq_true (by omega))
theorem euc_loop (s0 s1 : DL.Slot) (ct : Int) : ∀ (k : Nat) (a b : Int) (N : Nat), k < N → eucOk k a b = true → ∃ z,
    whileM N (asB (op2 gtD (getM 3) (pureM (.int 0)))) (seqM (parM 2 3 (consM (getM 3) (consM (op2 modD (getM 2) (getM 3)) (pureM [])))) nextM) ⟨[s0, s1, .dat (.int a), .dat (.int b)], ct⟩ = .ok .next ⟨[s0, s1, .dat (.int (eucF k a b)), .dat (.int z)], ct⟩
  | 0, a, b, N + 1, h, ho => by
    have hb : ¬ 0 < b := by unfold eucOk at ho; simpa using ho
    refine ⟨b, ev_whF (g1 := ⟨[s0, s1, .dat (.int a), .dat (.int b)], ct⟩) (by simp [hb])⟩
  | k + 1, a, b, N + 1, h, ho => by
    by_cases hb : 0 < b
    · have ho : eucOk k b (a.fmod b) = true := by unfold eucOk at ho; rw [if_pos hb] at ho; exact ho
      obtain ⟨z, e⟩ := euc_loop s0 s1 ct k b (a.fmod b) N (by omega) ho
      have hm := modI (i := a) hb
      refine ⟨z, ?_⟩
      have ef : eucF (k + 1) a b = eucF k b (a.fmod b) := if_pos hb
      rw [ef]
      generalize a.fmod b = c at hm e ⊢
      exact ev_whT (g1 := ⟨[s0, s1, .dat (.int a), .dat (.int b)], ct⟩) (by simp [hb]) (g2 := ⟨[s0, s1, .dat (.int b), .dat (.int c)], ct⟩) (by simp [hm]) e
    · have ef : eucF (k + 1) a b = a := if_neg hb
      rw [ef]
      exact ⟨b, ev_whF (g1 := ⟨[s0, s1, .dat (.int a), .dat (.int b)], ct⟩) (by simp [hb])⟩
theorem leuc_loop (s0 s1 : DL.Slot) (ct : Int) : ∀ (k : Nat) (a b : Int) (N : Nat), k < N → eucOk k a b = true → ∃ z,
    whileM N (asB (op2 gtD (getM 3) (pureM (.int 0)))) (seqM (parM 2 3 (consM (getM 3) (consM (op2 modD (opN intD (consM (getM 2) (pureM []))) (getM 3)) (pureM [])))) nextM) ⟨[s0, s1, .dat (.int a), .dat (.int b)], ct⟩ = .ok .next ⟨[s0, s1, .dat (.int (eucF k a b)), .dat (.int z)], ct⟩
  | 0, a, b, N + 1, h, ho => by
    have hb : ¬ 0 < b := by unfold eucOk at ho; simpa using ho
    refine ⟨b, ev_whF (g1 := ⟨[s0, s1, .dat (.int a), .dat (.int b)], ct⟩) (by simp [hb])⟩
  | k + 1, a, b, N + 1, h, ho => by
    by_cases hb : 0 < b
    · have ho : eucOk k b (a.fmod b) = true := by unfold eucOk at ho; rw [if_pos hb] at ho; exact ho
      obtain ⟨z, e⟩ := leuc_loop s0 s1 ct k b (a.fmod b) N (by omega) ho
      have hm := modI (i := a) hb
      have hi : intD [.int a] = some (.int a) := rfl
      refine ⟨z, ?_⟩
      have ef : eucF (k + 1) a b = eucF k b (a.fmod b) := if_pos hb
      rw [ef]
      generalize a.fmod b = c at hm e ⊢
      exact ev_whT (g1 := ⟨[s0, s1, .dat (.int a), .dat (.int b)], ct⟩) (by simp [hb]) (g2 := ⟨[s0, s1, .dat (.int b), .dat (.int c)], ct⟩) (by simp [hm, hi]) e
    · have ef : eucF (k + 1) a b = a := if_neg hb
      rw [ef]
      exact ⟨b, ev_whF (g1 := ⟨[s0, s1, .dat (.int a), .dat (.int b)], ct⟩) (by simp [hb])⟩
def divOk (j : Int) : Bool := decide (0 < j ∧ j.natAbs.log2 < 9000)
theorem divW {i j : Int} (h : divOk j = true) : fdivWD (.int i) (.int j) = some (.int (i / j)) := if_pos h
def lowOk (a b : Int) : Bool := eucOk 400 a b && divOk (eucF 400 a b)
def lowP (a b : Int) : Int × Int := (a / eucF 400 a b, b / eucF 400 a b)
def eP (p : Int × Int) : D := .tuple [.int p.1, .int p.2]
theorem lowest_tells (ns : List Int) (a b ct : Int) (h : lowOk a b = true) : Tells h_lowest ns [.dat (.int a), .dat (.int b)] ct (eP (lowP a b)) ct := by
  unfold lowOk at h
  rw [Bool.and_eq_true] at h
  obtain ⟨z, e⟩ := euc_loop (.dat (.int a)) (.dat (.int b)) ct 400 a b 1000 (by decide) h.1
  have d1 := divW (i := a) h.2
  have d2 := divW (i := b) h.2
  unfold eP lowP
  generalize eucF 400 a b = f at e d1 d2 ⊢
  generalize a / f = p at d1 ⊢
  generalize b / f = q at d2 ⊢
  refine tells_fn (g := ⟨[.dat (.int a), .dat (.int b), .dat (.int f), .dat (.int z)], ct⟩) rfl ?_
  exact ev_next (g1 := ⟨[.dat (.int a), .dat (.int b), .dat (.int a), .dat (.int b)], ct⟩) (by simp) (ev_next e (by simp [d1, d2]))
theorem L_terms_tells (ns : List Int) (a b ct : Int) (h : lowOk a b = true) : Tells h_L_terms ns [.dat (.int a), .dat (.int b)] ct (eP (lowP a b)) ct := by
  unfold lowOk at h
  rw [Bool.and_eq_true] at h
  obtain ⟨z, e⟩ := leuc_loop (.dat (.int a)) (.dat (.int b)) ct 400 a b 1000 (by decide) h.1
  have d1 := divW (i := a) h.2
  have d2 := divW (i := b) h.2
  unfold eP lowP
  generalize eucF 400 a b = f at e d1 d2 ⊢
  generalize a / f = p at d1 ⊢
  generalize b / f = q at d2 ⊢
  refine tells_fn (g := ⟨[.dat (.int a), .dat (.int b), .dat (.int f), .dat (.int z)], ct⟩) rfl ?_
  exact ev_next (g1 := ⟨[.dat (.int a), .dat (.int b), .dat (.int a), .dat (.int b)], ct⟩) (by simp) (ev_next e (by simp [d1, d2]))
def stepM (p : Int × Int) (x : Int) : Int × Int := (p.1 * x + p.2, p.2 * x)
def meanF (n : Int) : Int × Int := (rngI 1 (n + 1)).foldl stepM (0, 1)
theorem mean_tells (ns : List Int) (n ct : Int) (h1 : 1 ≤ n) (h2 : n ≤ 40) (h : lowOk ((meanF n).1 * n) (meanF n).2 = true) : Tells h_mean_messages ns [.dat (.int n)] ct (eP (lowP ((meanF n).1 * n) (meanF n).2)) ct := by
  obtain ⟨s1, e1⟩ := check_many_ok ns n 40 ct h1 h2
  obtain ⟨g', e, p, s3, hg, hp, _⟩ := forM_rel (k := putM 3) (body := (seqM (parM 1 2 (consM (op2 addD (op2 mulXD (getM 1) (getM 3)) (getM 2)) (consM (op2 mulXD (getM 2) (getM 3)) (pureM [])))) nextM)) (enc := PyData.int) (fun (xs : List Int) g => ∃ (p : Int × Int) (s3 : DL.Slot), g = ⟨[.dat (.int n), .dat (.int p.1), .dat (.int p.2), s3], ct⟩ ∧ xs.foldl stepM p = meanF n ∧ ∀ x ∈ xs, 0 ≤ x ∧ x ≤ 100) (fun x r g ⟨p, s3, hg, hp, hb⟩ => by
    subst hg
    have hx := hb x List.mem_cons_self
    have m1 := mulS (i := p.1) (j := x) (.inr (small_of (by omega) (by omega)))
    have m2 := mulS (i := p.2) (j := x) (.inr (small_of (by omega) (by omega)))
    refine ⟨⟨[.dat (.int n), .dat (.int (stepM p x).1), .dat (.int (stepM p x).2), .dat (.int x)], ct⟩, ?_, stepM p x, _, rfl, hp, fun y hy => hb y (List.mem_cons_of_mem _ hy)⟩
    unfold stepM
    generalize p.1 * x = a at m1 ⊢
    generalize p.2 * x = b at m2 ⊢
    generalize p.1 = c at m1 ⊢
    generalize p.2 = d at m2 ⊢
    simp [m1, m2]) (rngI 1 (n + 1)) ⟨[.dat (.int n), .dat (.int 0), .dat (.int 1), .no], ct⟩ ⟨(0, 1), .no, rfl, rfl, fun x hx => by have := mem_rngI.mp hx; omega⟩
  subst hg
  have hp : p = meanF n := hp
  subst hp
  have el := lowest_tells ns ((meanF n).1 * n) (meanF n).2 ct h
  have m1 := mulS (i := (meanF n).1) (j := n) (.inr (small_of (by omega) (by omega)))
  generalize lowP ((meanF n).1 * n) (meanF n).2 = res at el ⊢
  generalize (meanF n).1 * n = a at m1 el
  generalize (meanF n).1 = b at m1 e
  generalize (meanF n).2 = c at el e
  let G : Sg := ⟨[.dat (.int n), .dat (.int b), .dat (.int c), s3], ct⟩
  refine tells_fn (g := G) rfl ?_
  refine ev_next (g1 := ⟨[.dat (.int n), .no, .no, .no], ct⟩) (by simp [e1]) (ev_next (g1 := ⟨[.dat (.int n), .dat (.int 0), .dat (.int 1), .no], ct⟩) (by simp) (ev_next (ev_for (xs := (rngI 1 (n + 1)).map PyData.int) (g1 := ⟨[.dat (.int n), .dat (.int 0), .dat (.int 1), .no], ct⟩) (ev_srcA (ds := [.int 1, .int (n + 1)]) rfl (rng2_i 1 (n + 1) (by omega) (by omega) (by omega) (by omega))) e) ?_))
  obtain ⟨sl, el⟩ := el
  simp [m1, el, G]
end K50

set_option Elab.async false
set_option linter.all false
set_option maxRecDepth 100000
set_option maxHeartbeats 4000000
/-! K50i: the spread. -/
namespace K50
open PySem PySem.Spec L2 DL
theorem rng_nodup (a b : Int) : (rngI a b).Nodup := List.Pairwise.imp (fun h => by omega) (rngI_lt a b)
def cntOk (m : Int) (cs : List Int) : Bool := cs.all (fun c => decide (2 * m - 1 ≤ c ∧ c ≤ m * (m + 1) / 2)) && (rngI (2 * m - 1) (m * (m + 1) / 2 + 1)).all fun c => cs.contains c
theorem cnt_ok : ∀ m ∈ sizes, cntOk m (cntsL m) = true := by decide +kernel
theorem tri_le : ∀ m ∈ sizes, 2 * m - 1 ≤ m * (m + 1) / 2 ∧ m * (m + 1) / 2 ≤ 28 := by decide
theorem cnt_mem {m : Int} (hm : m ∈ sizes) (c : Int) : c ∈ cntsL m ↔ 2 * m - 1 ≤ c ∧ c ≤ m * (m + 1) / 2 := by
  have h := cnt_ok m hm
  unfold cntOk at h
  rw [Bool.and_eq_true] at h
  constructor
  · intro hc
    exact of_decide_eq_true (List.all_eq_true.mp h.1 c hc)
  · intro hc
    have := List.all_eq_true.mp h.2 c (mem_rngI.mpr ⟨hc.1, by omega⟩)
    simpa using this
theorem once_few {m : Int} (hm : m ∈ sizes) : (once (cntsL m)).length < 64 := by
  have hb := sz_bounds hm
  have ht := tri_le m hm
  have := nodup_le (m := once (cntsL m)) (l := rngI (2 * m - 1) (m * (m + 1) / 2 + 1)) (once_nodup _) (fun k hk => by
    have := (cnt_mem hm k).mp (once_mem.mp hk)
    exact mem_rngI.mpr ⟨this.1, by omega⟩)
  rw [len_rngI] at this
  omega
def spreadD (m : Int) : D := .tuple ((isort (once (cntsL m))).map fun c => PyData.tuple [.int c, eN ((cntsL m).count c)])
theorem once_le : ∀ l : List Int, (once l).length ≤ l.length := fun l => nodup_le (once_nodup l) fun k hk => once_mem.mp hk
theorem KI.len {kvs : List (Key × D)} {pre : List Int} (h : KI kvs pre) : kvs.length ≤ pre.length := by
  obtain ⟨l, h1, h2, h3⟩ := h.sorted
  have : ∀ {kvs : List (Key × D)} {l : List Int}, keyInts kvs = some l → kvs.length = l.length := by
    intro kvs
    induction kvs with
    | nil => intro l h; cases h; rfl
    | cons kv r ih =>
      intro l h
      obtain ⟨k, d⟩ := kv
      cases k with
      | inr s => cases h
      | inl i =>
        have h : (keyInts r).map (fun l => i :: l) = some l := h
        cases e : keyInts r with
        | none => rw [e] at h; cases h
        | some l' =>
          rw [e] at h
          cases h
          rw [List.length_cons, List.length_cons, ih e]
  rw [this h1, h3]
  exact once_le pre
theorem spread_turn (ns : List Int) (m ct : Int) (w : List Int) (hl : w.length ≤ 50) (kvs : List (Key × D)) (pre : List Int) (hk : KI kvs pre) (hp : pre.length ≤ 1000) (s2 s3 : DL.Slot) :
    goG (putM 2 (eT w)) (seqM (asgM (opN sumD (consM (callM h_known_steps ns (datsM (consM (getM 2) (pureM [])))) (pureM []))) (putM 3)) (seqM (dputM 1 (getM 3) (op2 addD (dget2V 1 (getM 3) (pureM (.int 0))) (pureM (.int 1)))) nextM)) ⟨[.dat (.int m), .ownK kvs, s2, s3], ct⟩
      = .ok .next ⟨[.dat (.int m), .ownK (putD kvs (Sum.inl (sumI w) : Key) (eN (pre.count (sumI w) + 1))), .dat (eT w), .dat (.int (sumI w))], ct⟩ := by
  have ew := known_tells ns w ct hl
  have es := sum_steps (stepsL w)
  let G1 : Sg := ⟨[.dat (.int m), .ownK kvs, .dat (eT w), s3], ct⟩
  let G2 : Sg := ⟨[.dat (.int m), .ownK kvs, .dat (eT w), .dat (.int (sumI w))], ct⟩
  refine ev_go (g1 := G1) rfl (ev_next (g1 := G2) (ev_asg (g1 := G1) (d := .int (sumI w)) (ev_opN (g1 := G1) (xs := [.list ((stepsL w).map eN)]) (ev_cons (g1 := G1) (ev_call (g1 := G1) (ss := [.dat (eT w)]) rfl ew) rfl) es) rfl) (ev_next (g1 := ⟨[.dat (.int m), .ownK (putD kvs (Sum.inl (sumI w) : Key) (eN (pre.count (sumI w) + 1))), .dat (eT w), .dat (.int (sumI w))], ct⟩) ?_ rfl))
  have hv := hk.val (sumI w)
  have eg : ((valD kvs (Sum.inl (sumI w) : Key)).getD (.int 0)) = eN (pre.count (sumI w)) := by
    rw [hv]
    by_cases hm : sumI w ∈ pre
    · rw [if_pos hm]; rfl
    · rw [if_neg hm]
      show PyData.int 0 = eN _
      rw [List.count_eq_zero.mpr hm]
      rfl
  have e1 : (dget2V 1 (getM 3) (pureM (.int 0))) G2 = .ok (eN (pre.count (sumI w))) G2 := by
    have := ev_dget2V (i := 1) (f := getM 3) (l := pureM (.int 0)) (k := .int (sumI w)) (z := .int 0) (g := G2) (g1 := G2) (g2 := G2) (o := valD kvs (Sum.inl (sumI w) : Key)) rfl rfl rfl rfl
    rw [eg] at this
    exact this
  have e2 : (op2 addD (dget2V 1 (getM 3) (pureM (.int 0))) (pureM (.int 1))) G2 = .ok (eN (pre.count (sumI w) + 1)) G2 := ev_op2 e1 rfl rfl
  have hz : kvs.length < sizeLine := small _ (by have := hk.len; omega)
  refine ev_bind e2 ?_
  show (if kvs.length < sizeLine then Res.ok Fl.next ⟨[.dat (.int m), .ownK (putD kvs (Sum.inl (sumI w) : Key) (eN (pre.count (sumI w) + 1))), .dat (eT w), .dat (.int (sumI w))], ct⟩ else .bad) = _
  rw [if_pos hz]
theorem spread_tells (ns : List Int) (m ct : Int) (hm : m ∈ sizes) : Tells h_spread_of ns [.dat (.int m)] ct (spreadD m) ct := by
  have hb := sz_bounds hm
  obtain ⟨f1, f2⟩ := ordersL_ok hm
  obtain ⟨sl1, e1⟩ := check_many_ok ns m 7 ct hb.1 hb.2
  have ea := all_tells ns m ct hm
  have hcl := cnts_len hm
  obtain ⟨g', e, kvs, pre, s2, s3, hp, hk, hg⟩ := forM_rel (k := putM 2) (body := (seqM (asgM (opN sumD (consM (callM h_known_steps ns (datsM (consM (getM 2) (pureM [])))) (pureM []))) (putM 3)) (seqM (dputM 1 (getM 3) (op2 addD (dget2V 1 (getM 3) (pureM (.int 0))) (pureM (.int 1)))) nextM))) (enc := eT) (fun xs g => ∃ (kvs : List (Key × D)) (pre : List (List Int)) (s2 s3 : DL.Slot), pre ++ xs = ordersL m ∧ KI kvs (pre.map sumI) ∧ g = ⟨[.dat (.int m), .ownK kvs, s2, s3], ct⟩) (fun w r g ⟨kvs, pre, s2, s3, hp, hk, hg⟩ => by
    subst hg
    have hw : w ∈ ordersL m := by rw [← hp]; simp
    have hpl : (pre.map sumI).length ≤ 1000 := by
      have : (pre ++ w :: r).length ≤ 720 := by rw [hp]; exact f1
      rw [List.length_append] at this
      rw [List.length_map]
      omega
    refine ⟨_, spread_turn ns m ct w (by rw [f2 w hw]; omega) kvs (pre.map sumI) hk hpl s2 s3, _, pre ++ [w], _, _, by rw [← hp]; simp, ?_, rfl⟩
    rw [List.map_append]
    exact hk.put (sumI w)) (ordersL m) ⟨[.dat (.int m), .ownK [], .no, .no], ct⟩ ⟨[], [], .no, .no, rfl, KI.nil, rfl⟩
  rw [List.append_nil] at hp
  subst hp
  subst hg
  have hk : KI kvs (cntsL m) := hk
  obtain ⟨l, k1, k2, k3⟩ := hk.sorted
  let G0 : Sg := ⟨[.dat (.int m), .no, .no, .no], ct⟩
  let GK : Sg := ⟨[.dat (.int m), .ownK [], .no, .no], ct⟩
  let G : Sg := ⟨[.dat (.int m), .ownK kvs, s2, s3], ct⟩
  let G3 : Sg := ⟨[.dat (.int m), .ownK kvs, s2, .no], ct⟩
  have esort : (sortKV 1) G = .ok (.list ((isort (once (cntsL m))).map PyData.int)) G := by
    show (match keyInts kvs with
      | some l => if l.length < 64 then Res.ok (PyData.list ((isort l).map PyData.int)) G else .bad
      | none => .bad) = _
    rw [k1]
    show (if l.length < 64 then Res.ok (PyData.list ((isort l).map PyData.int)) G else .bad) = _
    rw [if_pos (by rw [k3]; exact once_few hm), k2]
  refine tells_fn (g := G3) rfl (ev_next (g1 := G0) (by simp [e1, G0]) (ev_next (g1 := GK) rfl (ev_next (ev_for (g1 := GK) (xs := (ordersL m).map eT) (ev_bind (a := .list ((ordersL m).map eT)) (g1 := GK) (ev_call (g1 := GK) (ss := [.dat (.int m)]) rfl ea) rfl) e) (ev_stop (ev_ret (ev_opN (g1 := G3) (xs := [.list ((isort (once (cntsL m))).map fun c => PyData.tuple [.int c, eN ((cntsL m).count c)])]) (ev_cons (g1 := G3) (ev_lst ?_) rfl) rfl)) (fun z => nomatch z)))))
  refine lcTm (g1 := G) PyData.int (isort (once (cntsL m))) (fun c => PyData.tuple [.int c, eN ((cntsL m).count c)]) (ev_bind esort rfl) (fun c hc => ?_) (size_le _ (by
    rw [(isort_perm _).length_eq]
    have := once_few hm
    omega))
  let G4 : Sg := ⟨[.dat (.int m), .ownK kvs, s2, .dat (.int c)], ct⟩
  have hcm : c ∈ cntsL m := once_mem.mp ((isort_perm _).mem_iff.mp hc)
  have hv := hk.val c
  rw [if_pos hcm] at hv
  have ed : (dgetV 1 (getM 3)) G4 = .ok (eN ((cntsL m).count c)) G4 := ev_dgetV (k := .int c) (g := G4) (g1 := G4) rfl rfl (by
    show some (valD kvs (Sum.inl c : Key)) = _
    rw [hv])
  exact ⟨G4, G4, rfl, ev_tup (ds := [.int c, eN ((cntsL m).count c)]) (ev_cons (g1 := G4) rfl (ev_cons (g1 := G4) ed rfl)) sz2, rfl⟩
end K50

set_option Elab.async false
set_option linter.all false
set_option maxRecDepth 100000
set_option maxHeartbeats 4000000
/-! K50j: rings that are told; the most rounds. -/
namespace K50
open PySem PySem.Spec L2 DL
theorem pop_if (k : Int) (t : Nat) (xs : List D) (x : D) (g1 : Sg) (i : Nat) (hk : k = (t : Nat)) (h : -(2 ^ 63) ≤ k ∧ k < 2 ^ 63) (hx : xs[t]? = some x) : (if -(2 ^ 63) ≤ k ∧ k < 2 ^ 63 then (match seqIndex? k xs.length with
      | some j => (match xs[j]? with
        | some y => Res.ok y { g1 with sl := g1.sl.set i (.own (xs.eraseIdx j)) }
        | none => .bad)
      | none => .bad) else .bad) = Res.ok x { g1 with sl := g1.sl.set i (.own (xs.eraseIdx t)) } := by
  rw [if_pos h]
  have hl : t < xs.length := by
    rcases Nat.lt_or_ge t xs.length with z | z
    · exact z
    · rw [List.getElem?_eq_none z] at hx; cases hx
  have e : seqIndex? k xs.length = some t := by
    unfold seqIndex?
    subst hk
    simp
    omega
  simp only [e, hx]
theorem ev_popN {i : Nat} {f : M D} {g g1 : Sg} {ys xs : List D} {x : D} {t : Nat} (ht : t ≤ 1000) (h0 : g.sl[i]? = some (.own ys)) (hf : f g = .ok (eN t) g1) (h : g1.sl[i]? = some (.own xs)) (hx : xs[t]? = some x) : popM i f g = .ok x { g1 with sl := g1.sl.set i (.own (xs.eraseIdx t)) } := by
  unfold popM
  simp only [h0]
  refine ev_bind hf ?_
  simp only [h]
  have h3 : (0 : Int) ≤ (t : Nat) := by omega
  have h4 : ((t : Nat) : Int) ≤ 1000 := by omega
  exact pop_if (t : Nat) t xs x g1 i rfl ⟨Int.le_trans (by decide) h3, Int.lt_of_le_of_lt h4 (by decide)⟩ hx
def downL : Nat → List Nat
  | 0 => []
  | s + 1 => (s + 1) :: downL s
theorem down_len : ∀ s, (downL s).length = s
  | 0 => rfl
  | s + 1 => by show (downL s).length + 1 = _; rw [down_len s]
theorem down_rng : ∀ (s : Nat), ((List.range s).map fun k : Nat => PyData.int ((s : Int) + (k : Int) * -1)) = (downL s).map eN
  | 0 => rfl
  | s + 1 => by
    rw [List.range_succ_eq_map, List.map_cons, List.map_map]
    show _ :: _ = eN (s + 1) :: (downL s).map eN
    rw [← down_rng s]
    have e0 : PyData.int (((s + 1 : Nat) : Int) + ((0 : Nat) : Int) * -1) = eN (s + 1) := by congr 1
    rw [e0]
    congr 1
    apply List.map_congr_left
    intro k _
    show PyData.int (((s + 1 : Nat) : Int) + ((k + 1 : Nat) : Int) * -1) = PyData.int ((s : Int) + (k : Int) * -1)
    congr 1
    omega
theorem rng3_if (i j : Int) (h : (-1 : Int) = -1 ∧ -(2 ^ 62) ≤ i ∧ i < 2 ^ 62 ∧ -(2 ^ 62) ≤ j ∧ j < 2 ^ 62) : rng3 [.int i, .int j, .int (-1)] = some ((List.range (i - j).toNat).map fun k : Nat => PyData.int (i + (k : Int) * -1)) := if_pos h
theorem rng3_n (i : Int) (s : Nat) (hi : i = (s : Nat)) (h : s ≤ 1000) : rng3 [.int i, .int 0, .int (-1)] = some ((downL s).map eN) := by
  have h3 : (0 : Int) ≤ i := by omega
  have h4 : i ≤ 1000 := by omega
  rw [rng3_if i 0 ⟨rfl, Int.le_trans (by decide) h3, Int.lt_of_le_of_lt h4 (by decide), by decide, by decide⟩, ← down_rng s]
  subst hi
  simp
abbrev Sj (n c : Nat) (left : Nat) (free found : List Int) (s5 s6 s7 : DL.Slot) (ct : Int) : Sg := ⟨[.dat (eN n), .dat (eN c), .dat (eN left), .own (free.map PyData.int), .own (found.map PyData.int), s5, s6, s7], ct⟩
theorem min2_run (left s : Nat) (i : Int) (hi : i = (s : Nat)) : min2D [.int (left : Nat), .int i] = some (eN (min left s)) := by
  subst hi
  show some (PyData.int (if ((s : Nat) : Int) < ((left : Nat) : Int) then ((s : Nat) : Int) else ((left : Nat) : Int))) = _
  by_cases h : s < left
  · rw [if_pos (by omega)]
    congr 2
    omega
  · rw [if_neg (by omega)]
    congr 2
    omega
theorem er_map {α β : Type} (f : α → β) : ∀ (l : List α) (i : Nat), (l.map f).eraseIdx i = (l.eraseIdx i).map f
  | [], _ => rfl
  | _ :: _, 0 => rfl
  | x :: r, i + 1 => by
    show f x :: (r.map f).eraseIdx i = f x :: (r.eraseIdx i).map f
    rw [er_map f r i]
abbrev jBody : M Fl := (seqM (asgM (opN min2D (consM (getM 2) (consM (op2 subD (getM 6) (pureM (.int 1))) (pureM [])))) (putM 7))
  (seqM (appM 5 (getM 7))
  (seqM (augM 2 (i2D (fun _ _ => true) fun i j => .int (i - j)) (getM 7))
  nextM)))
theorem built_one (n c : Nat) (free found : List Int) (ct : Int) (all : List Nat) (ha : all.length ≤ 1000) (s left : Nat) (s6 s7 : DL.Slot) (h : takesF s left = all) : ∃ left' t6 t7,
    forM ((downL s).map eN) (putM 6) jBody (Sj n c left free found (.own []) s6 s7 ct) = .ok .next (Sj n c left' free found (.own (all.map eN)) t6 t7 ct) := by
  obtain ⟨g', e, s', left', acc, t6, t7, hd, hacc, hg⟩ := forM_rel (k := putM 6) (body := jBody) (enc := eN) (fun (xs : List Nat) g => ∃ (s left : Nat) (acc : List Nat) (t6 t7 : DL.Slot), xs = downL s ∧ acc ++ takesF s left = all ∧ g = Sj n c left free found (.own (acc.map eN)) t6 t7 ct) (fun x r g ⟨s, left, acc, t6, t7, hd, hacc, hg⟩ => by
    subst hg
    cases s with
    | zero => cases hd
    | succ s =>
      have hd1 : x = s + 1 := by injection hd
      have hd2 : r = downL s := by injection hd
      subst hd1
      have hacc : acc ++ min left s :: takesF s (left - min left s) = all := hacc
      have hl : acc.length < sizeLine := small _ (by rw [← hacc] at ha; simp at ha; omega)
      have hm := min2_run left s (((s + 1 : Nat) : Int) - 1) (by omega)
      have hle : min left s ≤ left := by omega
      have hsub : ((left : Int) - ((min left s : Nat) : Int)) = ((left - min left s : Nat) : Int) := by omega
      generalize min left s = t at hacc hm hle hsub
      refine ⟨_, ?_, s, left - t, acc ++ [t], .dat (eN (s + 1)), .dat (eN t), hd2, by rw [← hacc]; simp, rfl⟩
      refine ev_go (g1 := Sj n c left free found (.own (acc.map eN)) (.dat (eN (s + 1))) t7 ct) rfl ?_
      refine ev_next (g1 := Sj n c left free found (.own (acc.map eN)) (.dat (eN (s + 1))) (.dat (eN t)) ct) ?_ (ev_next (g1 := Sj n c left free found (.own ((acc ++ [t]).map eN)) (.dat (eN (s + 1))) (.dat (eN t)) ct) ?_ (ev_next (g1 := Sj n c (left - t) free found (.own ((acc ++ [t]).map eN)) (.dat (eN (s + 1))) (.dat (eN t)) ct) ?_ rfl))
      · refine ev_asg (g1 := Sj n c left free found (.own (acc.map eN)) (.dat (eN (s + 1))) t7 ct) (d := eN t) (ev_opN (g1 := Sj n c left free found (.own (acc.map eN)) (.dat (eN (s + 1))) t7 ct) (xs := [.int (left : Nat), .int (((s + 1 : Nat) : Int) - 1)]) rfl hm) rfl
      · have := ev_app (i := 5) (f := getM 7) (g := Sj n c left free found (.own (acc.map eN)) (.dat (eN (s + 1))) (.dat (eN t)) ct) (g1 := Sj n c left free found (.own (acc.map eN)) (.dat (eN (s + 1))) (.dat (eN t)) ct) (xs := acc.map eN) (xs' := acc.map eN) (d := eN t) rfl rfl rfl (by rw [List.length_map]; exact hl)
        rw [this, List.map_append]
        rfl
      · simp [hsub]) (downL s) (Sj n c left free found (.own []) s6 s7 ct) ⟨s, left, [], s6, s7, rfl, h, rfl⟩
  cases s' with
  | succ s => cases hd
  | zero =>
    have hacc : acc = all := by simpa [takesF] using hacc
    subst hacc
    subst hg
    exact ⟨left', t6, t7, e⟩
theorem built_two (n c left : Nat) (ct : Int) (s0 left0 : Nat) (free : List Int) (top : Int) (s5 s6 s7 : DL.Slot) (hf : free.length = s0) (hs : s0 ≤ 100) : ∃ free' t7,
    forM ((takesF s0 left0).map eN) (putM 7) (seqM (appM 4 (popM 3 (getM 7))) nextM) (Sj n c left free [top] s5 s6 s7 ct) = .ok .next (Sj n c left free' (top :: popsF (takesF s0 left0) free) s5 s6 t7 ct) := by
  obtain ⟨g', e, s', left', free', found, t7, hd, hl, hp, hlen, hg⟩ := forM_rel (k := putM 7) (body := (seqM (appM 4 (popM 3 (getM 7))) nextM)) (enc := eN) (fun (xs : List Nat) g => ∃ (s lf : Nat) (fr fo : List Int) (t7 : DL.Slot), xs = takesF s lf ∧ fr.length = s ∧ fo ++ popsF xs fr = top :: popsF (takesF s0 left0) free ∧ fo.length + s = s0 + 1 ∧ g = Sj n c left fr fo s5 s6 t7 ct) (fun x r g ⟨s, lf, fr, fo, t7, hd, hl, hp, hlen, hg⟩ => by
    subst hg
    cases s with
    | zero => cases hd
    | succ s =>
      have hd1 : x = min lf s := by injection hd
      have hd2 : r = takesF s (lf - min lf s) := by injection hd
      have hx : x < fr.length := by omega
      have hp : fo ++ fr.getD x 0 :: popsF r (fr.eraseIdx x) = top :: popsF (takesF s0 left0) free := hp
      have hz : fo.length < sizeLine := small _ (by omega)
      have hxe : (fr.map PyData.int)[x]? = some (.int (fr.getD x 0)) := by simp [List.getElem?_eq_getElem hx, List.getD]
      have her : (fr.map PyData.int).eraseIdx x = (fr.eraseIdx x).map PyData.int := er_map PyData.int fr x
      refine ⟨Sj n c left (fr.eraseIdx x) (fo ++ [fr.getD x 0]) s5 s6 (.dat (eN x)) ct, ?_, s, lf - min lf s, fr.eraseIdx x, fo ++ [fr.getD x 0], .dat (eN x), hd2, by rw [List.length_eraseIdx_of_lt hx]; omega, by rw [← hp]; simp, by rw [List.length_append]; simp; omega, rfl⟩
      refine ev_go (g1 := Sj n c left fr fo s5 s6 (.dat (eN x)) ct) rfl (ev_next (g1 := Sj n c left (fr.eraseIdx x) (fo ++ [fr.getD x 0]) s5 s6 (.dat (eN x)) ct) ?_ rfl)
      have h1 := ev_popN (i := 3) (f := getM 7) (t := x) (g := Sj n c left fr fo s5 s6 (.dat (eN x)) ct) (g1 := Sj n c left fr fo s5 s6 (.dat (eN x)) ct) (ys := fr.map PyData.int) (xs := fr.map PyData.int) (by omega) rfl rfl rfl hxe
      rw [her] at h1
      have := ev_app (i := 4) (g := Sj n c left fr fo s5 s6 (.dat (eN x)) ct) (xs := fo.map PyData.int) (xs' := fo.map PyData.int) rfl h1 rfl (by rw [List.length_map]; exact hz)
      rw [this]
      have em : fo.map PyData.int ++ [PyData.int (fr.getD x 0)] = (fo ++ [fr.getD x 0]).map PyData.int := by rw [List.map_append]; rfl
      rw [em]
      rfl) (takesF s0 left0) (Sj n c left free [top] s5 s6 s7 ct) ⟨s0, left0, free, [top], s7, rfl, hf, rfl, by simp; omega, rfl⟩
  cases s' with
  | succ s => cases hd
  | zero =>
    have hp : found = top :: popsF (takesF s0 left0) free := by simpa [popsF] using hp
    subst hp
    subst hg
    exact ⟨free', t7, e⟩
theorem lrg_n (n : Int) (s : Nat) (hn : n = (s : Nat)) (h : s ≤ 1000) : lrgD (.int n) = some (((List.range s).map fun k : Nat => (k : Int)).map PyData.int) := by
  subst hn
  show (if 0 ≤ ((s : Nat) : Int) ∧ ((s : Nat) : Int) ≤ 16777216 then some (rangeL 0 (((s : Nat) : Int)).toNat) else none) = _
  rw [if_pos ⟨by omega, by omega⟩, DL.range_map]
  rfl
theorem built_tells (ns : List Int) (n c : Nat) (ct : Int) (h1 : 1 ≤ n) (h2 : n ≤ 40) (h3 : 2 * n - 1 ≤ c) : Tells h_built ns [.dat (eN n), .dat (eN c)] ct (eT (builtL n c)) ct := by
  let free : List Int := (List.range (n - 1)).map fun k : Nat => (k : Int)
  have hfl : free.length = n - 1 := by simp [free]
  let left := c - (2 * n - 1)
  let ex := takesF (n - 1) left
  have hex : ex.length = n - 1 := takes_len _ _
  obtain ⟨l', t6, t7, e1⟩ := built_one n c free [((n : Int) - 1)] ct ex (by omega) (n - 1) left .no .no rfl
  obtain ⟨free', u7, e2⟩ := built_two n c l' ct (n - 1) left free ((n : Int) - 1) (.dat (.list (ex.map eN))) t6 t7 hfl (by omega)
  have hm : mulXD (.int 2) (.int (n : Nat)) = some (.int (2 * (n : Int))) := mulS (.inl (by decide))
  have hl := lrg_n ((n : Int) - 1) (n - 1) (by omega) (by omega)
  have hleft : (c : Int) - (2 * (n : Int) - 1) = ((left : Nat) : Int) := by show (c : Int) - (2 * (n : Int) - 1) = ((c - (2 * n - 1) : Nat) : Int); omega
  have hr := rng3_n ((n : Int) - 1) (n - 1) (by omega) (by omega)
  let S0 : Sg := ⟨[.dat (eN n), .dat (eN c), .no, .no, .no, .no, .no, .no], ct⟩
  let S1 : Sg := ⟨[.dat (eN n), .dat (eN c), .dat (eN left), .own (free.map PyData.int), .no, .no, .no, .no], ct⟩
  let S2 : Sg := ⟨[.dat (eN n), .dat (eN c), .dat (eN left), .own (free.map PyData.int), .own ([((n : Int) - 1)].map PyData.int), .no, .no, .no], ct⟩
  let S3 : Sg := Sj n c left free [((n : Int) - 1)] (.own []) .no .no ct
  let S4 : Sg := Sj n c l' free [((n : Int) - 1)] (.dat (.list (ex.map eN))) t6 t7 ct
  refine tells_fn (g := ⟨[.dat (eN n), .dat (eN c), .dat (eN l'), .own (free'.map PyData.int), .dat (.list ((builtL n c).map PyData.int)), .dat (.list (ex.map eN)), t6, u7], ct⟩) rfl ?_
  refine ev_next (g1 := S1) ?_ (ev_next (g1 := S2) (by simp [S1, S2]) (ev_next (g1 := S3) (by simp [S2, S3]) (ev_next (ev_for (g1 := S3) (xs := (downL (n - 1)).map eN) ?_ e1) (ev_next (ev_for (g1 := S4) (xs := ex.map eN) rfl e2) rfl))))
  · refine ev_bind (a := eN left) (g1 := S0) ?_ (ev_bind (a := free.map PyData.int) (g1 := S0) ?_ rfl)
    · refine ev_op2 (g1 := S0) (g2 := S0) (x := .int (c : Nat)) (y := .int (2 * (n : Int) - 1)) rfl (ev_op2 (g1 := S0) (g2 := S0) (x := .int (2 * (n : Int))) (y := .int 1) (ev_op2 (g1 := S0) (g2 := S0) (x := .int 2) (y := .int (n : Nat)) rfl rfl hm) rfl rfl) ?_
      show some (PyData.int ((c : Int) - (2 * (n : Int) - 1))) = _
      rw [hleft]
    · exact ev_bind (a := .int ((n : Int) - 1)) (g1 := S0) rfl (ev_liftO hl)
  · exact ev_srcA (ds := [.int ((n : Int) - 1), .int 0, .int (-1)]) rfl hr
theorem ring_run (ns : List Int) (i j p q ct : Int) (s1 s2 : List DL.Slot) (res : D) (e1 : h_check_many ns [.dat (.int i), .dat (.int 40)] ct = .ok .none ⟨s1, ct⟩) (e2 : h_built ns [.dat (.int i), .dat (.int j)] ct = .ok res ⟨s2, ct⟩) (hm : mulXD (.int 2) (.int i) = some (.int (2 * i))) (em : mulXD (.int i) (.int (i + 1)) = some (.int p)) (ef : fdivD (.int p) (.int 2) = some (.int q)) (b1 : 2 * i - 1 ≤ j) (b2 : j ≤ q) :
    m_ring_with ns ⟨[.dat (.int i), .dat (.int j)], ct⟩ = .ok (.ret res) ⟨[.dat (.int i), .dat (.int j)], ct⟩ := by
  simp [m_ring_with, e1, e2, hm, em, ef, b1, b2]
theorem ring_runX (ns : List Int) (i j p q ct : Int) (s1 : List DL.Slot) (e1 : h_check_many ns [.dat (.int i), .dat (.int 40)] ct = .ok .none ⟨s1, ct⟩) (hm : mulXD (.int 2) (.int i) = some (.int (2 * i))) (em : mulXD (.int i) (.int (i + 1)) = some (.int p)) (ef : fdivD (.int p) (.int 2) = some (.int q)) (h3 : ¬ (2 * i - 1 ≤ j ∧ j ≤ q)) :
    m_ring_with ns ⟨[.dat (.int i), .dat (.int j)], ct⟩ = .exc "NotAllowed" ct := by
  by_cases b : 2 * i - 1 ≤ j
  · have b2 : ¬ j ≤ q := fun z => h3 ⟨b, z⟩
    simp [m_ring_with, e1, hm, em, ef, b, b2]
  · simp [m_ring_with, e1, hm, em, ef, b]
theorem ring_tells (ns : List Int) (n c : Nat) (ct : Int) (h1 : 1 ≤ n) (h2 : n ≤ 40) (h3 : 2 * n - 1 ≤ c) (h4 : c ≤ n * (n + 1) / 2) : Tells h_ring_with ns [.dat (eN n), .dat (eN c)] ct (eT (builtL n c)) ct := by
  obtain ⟨s1, e1⟩ := check_many_ok ns n 40 ct (by omega) (by omega)
  obtain ⟨s2, e2⟩ := built_tells ns n c ct h1 h2 h3
  have hm : mulXD (.int 2) (.int (n : Nat)) = some (.int (2 * (n : Int))) := mulS (.inl (by decide))
  have em := mul_nextN n h2
  have ef := fdiv2 (n * (n + 1))
  have b1 : 2 * (n : Int) - 1 ≤ (c : Nat) := by omega
  have b2 : (c : Int) ≤ ((n * (n + 1) / 2 : Nat) : Int) := by omega
  exact tells_fn (g := ⟨[.dat (eN n), .dat (eN c)], ct⟩) rfl (ring_run ns _ _ _ _ ct s1 s2 _ e1 e2 hm em ef b1 b2)
theorem ring_refused (ns : List Int) (n : Nat) (c ct : Int) (h1 : 1 ≤ n) (h2 : n ≤ 40) (h3 : ¬ (2 * (n : Int) - 1 ≤ c ∧ c ≤ ((n * (n + 1) / 2 : Nat) : Int))) : h_ring_with ns [.dat (eN n), .dat (.int c)] ct = .exc "NotAllowed" ct := by
  obtain ⟨s1, e1⟩ := check_many_ok ns n 40 ct (by omega) (by omega)
  have hm : mulXD (.int 2) (.int (n : Nat)) = some (.int (2 * (n : Int))) := mulS (.inl (by decide))
  have em := mul_nextN n h2
  have ef := fdiv2 (n * (n + 1))
  exact raises_fn rfl (ring_runX ns _ _ _ _ ct s1 e1 hm em ef h3)
def mrF : Nat → Nat → Nat → Nat
  | 0, _, r => r
  | k + 1, n, r => if 1 < n then mrF k (n / 2) (r + 1) else r
theorem mr_loop (ct : Int) : ∀ (k n r N : Nat), k < N → n < 2 ^ (k + 1) → ∃ n',
    whileM N (asB (op2 gtD (getM 0) (pureM (.int 1)))) (seqM (parM 0 1 (consM (op2 fdivD (getM 0) (pureM (.int 2))) (consM (op2 addD (getM 1) (pureM (.int 1))) (pureM [])))) nextM) ⟨[.dat (eN n), .dat (eN r)], ct⟩ = .ok .next ⟨[.dat (eN n'), .dat (eN (mrF k n r))], ct⟩
  | 0, n, r, N + 1, h, hn => by
    have b : ¬ 1 < n := by have : n < 2 := hn; omega
    exact ⟨n, ev_whF (g1 := ⟨[.dat (eN n), .dat (eN r)], ct⟩) (by simp; omega)⟩
  | k + 1, n, r, N + 1, h, hn => by
    by_cases b : 1 < n
    · have hp : 2 ^ (k + 1 + 1) = 2 ^ (k + 1) * 2 := Nat.pow_succ 2 (k + 1)
      obtain ⟨n', e⟩ := mr_loop ct k (n / 2) (r + 1) N (by omega) (by omega)
      have ef := fdiv2 n
      refine ⟨n', ?_⟩
      have em : mrF (k + 1) n r = mrF k (n / 2) (r + 1) := if_pos b
      rw [em]
      generalize n / 2 = q at e ef ⊢
      exact ev_whT (g1 := ⟨[.dat (eN n), .dat (eN r)], ct⟩) (by simp; omega) (g2 := ⟨[.dat (eN q), .dat (eN (r + 1))], ct⟩) (by simp [ef]) e
    · have em : mrF (k + 1) n r = r := if_neg b
      rw [em]
      exact ⟨n, ev_whF (g1 := ⟨[.dat (eN n), .dat (eN r)], ct⟩) (by simp; omega)⟩
theorem most_rounds_tells (ns : List Int) (n : Nat) (ct : Int) (h1 : 1 ≤ n) (h2 : n ≤ 40) : Tells h_most_rounds ns [.dat (eN n)] ct (eN (mrF 6 n 0)) ct := by
  obtain ⟨s1, e1⟩ := check_many_ok ns n 40 ct (by omega) (by omega)
  obtain ⟨n', e⟩ := mr_loop ct 6 n 0 1000 (by decide) (by omega)
  refine tells_fn (g := ⟨[.dat (eN n'), .dat (eN (mrF 6 n 0))], ct⟩) rfl ?_
  exact ev_next (g1 := ⟨[.dat (eN n), .no], ct⟩) (by simp [e1]) (ev_next (g1 := ⟨[.dat (eN n), .dat (eN 0)], ct⟩) (by simp) (ev_next e rfl))
end K50

set_option Elab.async false
set_option linter.all false
set_option maxRecDepth 100000
set_option maxHeartbeats 4000000
/-! K50k: facts that are reckoned. -/
namespace K50
open PySem PySem.Spec L2 DL
def partF (n : Int) : Int := (rngI 2 (n + 1)).foldl (fun p k => p * k) 1
def numF (n : Int) : Int := ((rngI 1 (n + 1)).map fun k => n * (partF n).fdiv k).sum
def fineW (d : D) : Bool := d.showable && d.canLay0 && d.leavesShort 100 && d.shown.cps.toList.all (fun c => decide (c < 0x110000)) && decide (d.depth ≤ 0) && decide (d.weight ≤ 200)
theorem fine_ofW {d : D} (h : fineW d = true) : Fine 0 200 d := by
  unfold fineW at h
  simp only [Bool.and_eq_true] at h
  obtain ⟨⟨⟨⟨⟨h1, h2⟩, h3⟩, h4⟩, h5⟩, h6⟩ := h
  exact ⟨h1, h2, h3, fun c hc => of_decide_eq_true (List.all_eq_true.mp h4 c hc), of_decide_eq_true h5, of_decide_eq_true h6⟩
def finP (p : Int × Int) : Bool := fineW (.int p.1) && fineW (.int p.2)
theorem fine_P {p : Int × Int} (h : finP p = true) : Fine 1 402 (eP p) := by
  unfold finP at h
  rw [Bool.and_eq_true] at h
  exact Fine.tuple (k := 0) (n := 200) (L := 2) (fun x hx => by
    rcases List.mem_cons.mp hx with rfl | hx
    · exact fine_ofW h.1
    · obtain rfl := List.mem_singleton.mp hx
      exact fine_ofW h.2) (Nat.le_refl _)
def greatB (n : Int) : Bool := lowOk (numF n) (partF n) && ((meanF n).1 * n == numF n) && ((meanF n).2 == partF n) && finP (lowP (numF n) (partF n)) && (mrF 6 n.toNat 0 == [3, 4, 5].getD ((if 15 < n then 1 else 0) + (if 31 < n then 1 else 0)) 0)
theorem great_ok : ∀ n ∈ rngI 8 41, greatB n = true := by decide +kernel
def sizeB (m : Int) (cs : List Int) : Bool := lowOk cs.sum (cs.length : Nat) && lowOk ((meanF m).1 * m) (meanF m).2 && (lowP ((meanF m).1 * m) (meanF m).2 == lowP cs.sum (cs.length : Nat)) && finP (lowP cs.sum (cs.length : Nat)) && (maxL cs == some (m * (m + 1) / 2)) && (minL cs == some (2 * m - 1))
theorem size_ok : ∀ m ∈ sizes, sizeB m (cntsL m) = true := by decide +kernel
def rndB (m : Int) : Bool := maxL ((ordersL m).map fun w => ((roundsL w).length : Int) - 1) == some ((mrF 6 m.toNat 0 : Nat) : Int)
theorem rnd_ok : ∀ m ∈ sizes, rndB m = true := by decide +kernel
end K50

set_option Elab.async false
set_option linter.all false
set_option maxRecDepth 100000
set_option maxHeartbeats 4000000
/-! K50l: what is told. -/
namespace K50
open PySem PySem.Spec L2 DL
abbrev pA : List FnM := [h_steps_on, h_messages, h_rounds_to_know, h_left_by_rounds, h_rounds_of_two]
abbrev pB : List FnM := [h_most_messages, h_fewest_messages, h_mean_messages, h_spread_of, h_most_rounds]
abbrev pC : List FnM := [h_orders_with, h_ring_with, h_stops_at]
theorem cond5 (k : Int) (x y : D) (ct n : Int) : (asB (op2 ltD (getM 0) (pureM (.int n)))) ⟨[.dat (.int k), .dat x, .dat y, .no], ct⟩ = .ok (decide (k < n)) ⟨[.dat (.int k), .dat x, .dat y, .no], ct⟩ := rfl
section
variable (ns : List Int) (k ct : Int) (x y v : D) (h : FnM) (n z : Str)
theorem toldA (hk : k < 5) (hh : L2.atI pA k = some h) (ht : Tells h ns [.dat x] ct v ct) : Tells h_L_told ns [.dat (.int k), .dat x, .dat y] ct (tellD v) ct := by
  let S : Sg := ⟨[.dat (.int k), .dat x, .dat y, .no], ct⟩
  have c := cond5 k x y ct 5
  rw [decide_eq_true hk] at c
  exact tells_fn (g := S) rfl (ev_stop (ev_try (ev_stop (ev_ifT (g1 := S) c (ev_stop (ev_ret (ev_tup (ds := [.str "told", v]) (ev_cons (g1 := S) rfl (ev_cons (g1 := S) (ev_pick (g1 := S) (i := k) rfl hh (ev_call (g1 := S) (ss := [.dat x]) rfl ht)) rfl)) sz2)) (fun z => nomatch z))) (fun z => nomatch z))) (fun z => nomatch z))
theorem toldAX (hk : k < 5) (hh : L2.atI pA k = some h) (ht : h ns [.dat x] ct = .exc n ct) (hz : nmE n = some z) : Tells h_L_told ns [.dat (.int k), .dat x, .dat y] ct (.str z) ct := by
  let S : Sg := ⟨[.dat (.int k), .dat x, .dat y, .no], ct⟩
  have c := cond5 k x y ct 5
  rw [decide_eq_true hk] at c
  exact tells_fn (g := ⟨S.sl.map fun _ => .no, ct⟩) rfl (ev_stop (ev_tryX (ev_exc (ev_ifT (g1 := S) c (ev_exc (ev_retX (ev_tupX (ev_consX2 (g1 := S) rfl (ev_consX (ev_pick (g1 := S) (i := k) rfl hh (ev_callX (g1 := S) (ss := [.dat x]) rfl ht))))))))) hz) (fun z => nomatch z))
theorem toldB (hk : 5 ≤ k) (hk2 : k < 10) (hh : L2.atI pB (k - 5) = some h) (ht : Tells h ns [.dat x] ct v ct) : Tells h_L_told ns [.dat (.int k), .dat x, .dat y] ct (tellD v) ct := by
  let S : Sg := ⟨[.dat (.int k), .dat x, .dat y, .no], ct⟩
  have c := cond5 k x y ct 5
  rw [decide_eq_false (by omega)] at c
  have c2 := cond5 k x y ct 10
  rw [decide_eq_true hk2] at c2
  exact tells_fn (g := S) rfl (ev_stop (ev_try (ev_next (ev_ifF (g1 := S) c rfl) (ev_stop (ev_ifT (g1 := S) c2 (ev_stop (ev_ret (ev_tup (ds := [.str "told", v]) (ev_cons (g1 := S) rfl (ev_cons (g1 := S) (ev_pick (g1 := S) (i := k - 5) rfl hh (ev_call (g1 := S) (ss := [.dat x]) rfl ht)) rfl)) sz2)) (fun z => nomatch z))) (fun z => nomatch z)))) (fun z => nomatch z))
theorem toldBX (hk : 5 ≤ k) (hk2 : k < 10) (hh : L2.atI pB (k - 5) = some h) (ht : h ns [.dat x] ct = .exc n ct) (hz : nmE n = some z) : Tells h_L_told ns [.dat (.int k), .dat x, .dat y] ct (.str z) ct := by
  let S : Sg := ⟨[.dat (.int k), .dat x, .dat y, .no], ct⟩
  have c := cond5 k x y ct 5
  rw [decide_eq_false (by omega)] at c
  have c2 := cond5 k x y ct 10
  rw [decide_eq_true hk2] at c2
  exact tells_fn (g := ⟨S.sl.map fun _ => .no, ct⟩) rfl (ev_stop (ev_tryX (ev_next (ev_ifF (g1 := S) c rfl) (ev_exc (ev_ifT (g1 := S) c2 (ev_exc (ev_retX (ev_tupX (ev_consX2 (g1 := S) rfl (ev_consX (ev_pick (g1 := S) (i := k - 5) rfl hh (ev_callX (g1 := S) (ss := [.dat x]) rfl ht)))))))))) hz) (fun z => nomatch z))
theorem toldC (hk : 10 ≤ k) (hh : L2.atI pC (k - 10) = some h) (ht : Tells h ns [.dat x, .dat y] ct v ct) : Tells h_L_told ns [.dat (.int k), .dat x, .dat y] ct (tellD v) ct := by
  let S : Sg := ⟨[.dat (.int k), .dat x, .dat y, .no], ct⟩
  have c := cond5 k x y ct 5
  rw [decide_eq_false (by omega)] at c
  have c2 := cond5 k x y ct 10
  rw [decide_eq_false (by omega)] at c2
  exact tells_fn (g := S) rfl (ev_stop (ev_try (ev_next (ev_ifF (g1 := S) c rfl) (ev_next (ev_ifF (g1 := S) c2 rfl) (ev_stop (ev_ret (ev_tup (ds := [.str "told", v]) (ev_cons (g1 := S) rfl (ev_cons (g1 := S) (ev_pick (g1 := S) (i := k - 10) rfl hh (ev_call (g1 := S) (ss := [.dat x, .dat y]) rfl ht)) rfl)) sz2)) (fun z => nomatch z))))) (fun z => nomatch z))
theorem toldCX (hk : 10 ≤ k) (hh : L2.atI pC (k - 10) = some h) (ht : h ns [.dat x, .dat y] ct = .exc n ct) (hz : nmE n = some z) : Tells h_L_told ns [.dat (.int k), .dat x, .dat y] ct (.str z) ct := by
  let S : Sg := ⟨[.dat (.int k), .dat x, .dat y, .no], ct⟩
  have c := cond5 k x y ct 5
  rw [decide_eq_false (by omega)] at c
  have c2 := cond5 k x y ct 10
  rw [decide_eq_false (by omega)] at c2
  exact tells_fn (g := ⟨S.sl.map fun _ => .no, ct⟩) rfl (ev_stop (ev_tryX (ev_next (ev_ifF (g1 := S) c rfl) (ev_next (ev_ifF (g1 := S) c2 rfl) (ev_exc (ev_retX (ev_tupX (ev_consX2 (g1 := S) rfl (ev_consX (ev_pick (g1 := S) (i := k - 10) rfl hh (ev_callX (g1 := S) (ss := [.dat x, .dat y]) rfl ht))))))))) hz) (fun z => nomatch z))
end
theorem nm_large : nmE "TooLarge" = some "large" := by decide +kernel
theorem nm_refused : nmE "NotAllowed" = some "refused" := by decide +kernel
/-! the five of a row -/
def rowR (row : List Int) (k : Int) : D := if k = 0 then .tuple ((stepsL row).map eN) else if k = 1 then eN (stepsL row).sum else if k = 2 then .int (mxL (stepsL row)) else if k = 3 then .list (eTs (roundsL row)) else .int (((roundsL row).length : Nat) - 1)
theorem row_told (ns : List Int) (row : List Int) (ct : Int) (y : D) (h : okRow row) : ∀ k ∈ ([0, 1, 2, 3, 4] : List Int), Tells h_L_told ns [.dat (.int k), .dat (eT row), .dat y] ct (tellD (rowR row k)) ct := by
  intro k hk
  simp only [List.mem_cons, List.not_mem_nil, or_false] at hk
  rcases hk with e | e | e | e | e <;> subst e
  · exact toldA ns 0 ct _ y _ _ (by decide) (L2.atI_nat (j := 0) rfl) (steps_on_tells ns row ct h)
  · exact toldA ns 1 ct _ y _ _ (by decide) (L2.atI_nat (j := 1) rfl) (messages_tells ns row ct h)
  · exact toldA ns 2 ct _ y _ _ (by decide) (L2.atI_nat (j := 2) rfl) (rounds_tells ns row ct h)
  · exact toldA ns 3 ct _ y _ _ (by decide) (L2.atI_nat (j := 3) rfl) (left_tells ns row ct h)
  · exact toldA ns 4 ct _ y _ _ (by decide) (L2.atI_nat (j := 4) rfl) (two_tells ns row ct h)
theorem row_X (ns : List Int) (row : List Int) (ct : Int) (y : D) (n z : Str) (hz : nmE n = some z) (h : ∀ ct, h_check_numbers ns [.dat (eT row)] ct = .exc n ct) : ∀ k ∈ ([0, 1, 2, 3, 4, 12] : List Int), Tells h_L_told ns [.dat (.int k), .dat (eT row), .dat y] ct (.str z) ct := by
  intro k hk
  obtain ⟨a0, a1, a2, a3, a4, a5⟩ := five_X ns row ct n (h ct) y
  simp only [List.mem_cons, List.not_mem_nil, or_false] at hk
  rcases hk with e | e | e | e | e | e <;> subst e
  · exact toldAX ns 0 ct _ y _ n z (by decide) (L2.atI_nat (j := 0) rfl) a0 hz
  · exact toldAX ns 1 ct _ y _ n z (by decide) (L2.atI_nat (j := 1) rfl) a1 hz
  · exact toldAX ns 2 ct _ y _ n z (by decide) (L2.atI_nat (j := 2) rfl) a2 hz
  · exact toldAX ns 3 ct _ y _ n z (by decide) (L2.atI_nat (j := 3) rfl) a3 hz
  · exact toldAX ns 4 ct _ y _ n z (by decide) (L2.atI_nat (j := 4) rfl) a4 hz
  · exact toldCX ns 12 ct _ y _ n z (by decide) (L2.atI_nat (j := 2) rfl) a5 hz
/-! of sizes -/
theorem many_X (ns : List Int) (n most ct : Int) (e : Str) (c : Int) (h : h_check_many ns [.dat (.int n), .dat (.int 40)] ct = .exc e ct) : h_most_messages ns [.dat (.int n)] ct = .exc e ct ∧ h_fewest_messages ns [.dat (.int n)] ct = .exc e ct ∧ h_mean_messages ns [.dat (.int n)] ct = .exc e ct ∧ h_most_rounds ns [.dat (.int n)] ct = .exc e ct ∧ h_ring_with ns [.dat (.int n), .dat (.int c)] ct = .exc e ct := by
  refine ⟨raises_fn rfl ?_, raises_fn rfl ?_, raises_fn rfl ?_, raises_fn rfl ?_, raises_fn rfl ?_⟩
  · simp [m_most_messages, h]
  · simp [m_fewest_messages, h]
  · simp [m_mean_messages, h]
  · simp [m_most_rounds, h]
  · simp [m_ring_with, h]
theorem seven_X (ns : List Int) (n ct : Int) (e : Str) (c : Int) (h : h_check_many ns [.dat (.int n), .dat (.int 7)] ct = .exc e ct) : h_spread_of ns [.dat (.int n)] ct = .exc e ct ∧ h_orders_with ns [.dat (.int n), .dat (.int c)] ct = .exc e ct := by
  refine ⟨raises_fn rfl ?_, raises_fn rfl ?_⟩
  · simp [m_spread_of, h]
  · simp [m_orders_with, h]
theorem many_told (ns : List Int) (n c ct : Int) (e z : Str) (hz : nmE e = some z) (h : h_check_many ns [.dat (.int n), .dat (.int 40)] ct = .exc e ct) : ∀ k ∈ ([5, 6, 7, 9, 11] : List Int), Tells h_L_told ns [.dat (.int k), .dat (.int n), .dat (.int c)] ct (.str z) ct := by
  intro k hk
  obtain ⟨a0, a1, a2, a3, a4⟩ := many_X ns n n ct e c h
  simp only [List.mem_cons, List.not_mem_nil, or_false] at hk
  rcases hk with i | i | i | i | i <;> subst i
  · exact toldBX ns 5 ct _ _ _ e z (by decide) (by decide) (L2.atI_nat (j := 0) rfl) a0 hz
  · exact toldBX ns 6 ct _ _ _ e z (by decide) (by decide) (L2.atI_nat (j := 1) rfl) a1 hz
  · exact toldBX ns 7 ct _ _ _ e z (by decide) (by decide) (L2.atI_nat (j := 2) rfl) a2 hz
  · exact toldBX ns 9 ct _ _ _ e z (by decide) (by decide) (L2.atI_nat (j := 4) rfl) a3 hz
  · exact toldCX ns 11 ct _ _ _ e z (by decide) (L2.atI_nat (j := 1) rfl) a4 hz
theorem seven_told (ns : List Int) (n c ct : Int) (e z : Str) (hz : nmE e = some z) (h : h_check_many ns [.dat (.int n), .dat (.int 7)] ct = .exc e ct) : ∀ k ∈ ([8, 10] : List Int), Tells h_L_told ns [.dat (.int k), .dat (.int n), .dat (.int c)] ct (.str z) ct := by
  intro k hk
  obtain ⟨a0, a1⟩ := seven_X ns n ct e c h
  simp only [List.mem_cons, List.not_mem_nil, or_false] at hk
  rcases hk with i | i <;> subst i
  · exact toldBX ns 8 ct _ _ _ e z (by decide) (by decide) (L2.atI_nat (j := 3) rfl) a0 hz
  · exact toldCX ns 10 ct _ _ _ e z (by decide) (L2.atI_nat (j := 0) rfl) a1 hz
end K50

set_option Elab.async false
set_option linter.all false
set_option maxRecDepth 100000
set_option maxHeartbeats 4000000
/-! K50o: the row that is drawn. -/
namespace K50
open PySem PySem.Spec L2 DL
theorem next_ok (ns : List Int) (k ct : Int) (h0 : ns ≠ []) (h1 : ns.length ≤ 4000) (hc0 : 0 ≤ ct) (hc : ct ≤ 1000) (hk : 0 < k) : ∃ v, 0 ≤ v ∧ v < k ∧ Tells h_L_next ns [.sta, .dat (.int k)] ct (.int v) (ct + 1) := next_tells ns k ct h0 h1 hc0 hc hk
def rowOk (row : List Int) : Prop := okRow row ∧ ∀ x ∈ row, -200 ≤ x ∧ x ≤ 1200
def startL (n : Int) : List Int := (rngI 0 n).map fun k => 3 * k - 7
theorem start_nodup (n : Int) : (startL n).Nodup := by
  unfold startL
  rw [List.nodup_iff_pairwise_ne, List.pairwise_map]
  exact List.Pairwise.imp (fun h => by omega) (rngI_lt 0 n)
theorem rowOk_perm {row : List Int} {n : Int} (h1 : 1 ≤ n) (h2 : n ≤ 40) (p : row.Perm (startL n)) : rowOk row := by
  have hl : row.length = n.toNat := by rw [p.length_eq]; unfold startL; rw [List.length_map, len_rngI]; omega
  have hb : ∀ x ∈ row, -200 ≤ x ∧ x ≤ 1200 := fun x hx => by
    obtain ⟨k, hk, rfl⟩ := List.mem_map.mp (p.mem_iff.mp hx)
    have := mem_rngI.mp hk
    omega
  refine ⟨⟨fun z => by rw [z] at hl; simp at hl; omega, by omega, p.nodup_iff.mpr (start_nodup n), fun x hx => by have := hb x hx; omega⟩, hb⟩
theorem pick_four {α : Type} (a b c d : α) (v : Int) (h0 : 0 ≤ v) (h1 : v < 4) : ∃ x, L2.atI [a, b, c, d] v = some x ∧ (x = a ∨ x = b ∨ x = c ∨ x = d) := by
  have hv : v = 0 ∨ v = 1 ∨ v = 2 ∨ v = 3 := by omega
  rcases hv with e | e | e | e <;> subst e
  · exact ⟨a, L2.atI_nat (j := 0) rfl, .inl rfl⟩
  · exact ⟨b, L2.atI_nat (j := 1) rfl, .inr (.inl rfl)⟩
  · exact ⟨c, L2.atI_nat (j := 2) rfl, .inr (.inr (.inl rfl))⟩
  · exact ⟨d, L2.atI_nat (j := 3) rfl, .inr (.inr (.inr rfl))⟩
theorem sorted_L (xs : List Int) : sortedD [.list (xs.map PyData.int)] = some (.list ((isort xs).map PyData.int)) := by
  show (intsD (xs.map PyData.int)).map (fun ns => PyData.list ((isort ns).map PyData.int)) = _
  rw [ints_map]
  rfl
abbrev dBody (ns : List Int) : M Fl := (seqM (appM 3 (popM 2 (callM h_L_next ns (staM 0 (consM (lenV 2) (pureM []))))))
  nextM)
abbrev Sd (n : Int) (left row : List Int) (s4 : DL.Slot) (ct : Int) : Sg := ⟨[.sta, .dat (.int n), .own (left.map PyData.int), .own (row.map PyData.int), s4], ct⟩
theorem drawn_loop (ns : List Int) (h0 : ns ≠ []) (h1 : ns.length ≤ 4000) (n : Int) : ∀ (xs : List D) (left row : List Int) (s4 : DL.Slot) (ct : Int), left.length = xs.length → left.length + row.length ≤ 100 → 0 ≤ ct → ct + xs.length ≤ 1000 → ∃ row' t4,
    forM xs (putM 4) (dBody ns) (Sd n left row s4 ct) = .ok .next (Sd n [] row' t4 (ct + xs.length)) ∧ row'.Perm (row ++ left)
  | [], left, row, s4, ct, hl, hz, hc0, hc => by
    have := List.length_eq_zero_iff.mp hl
    subst this
    refine ⟨row, s4, ?_, by simp⟩
    show Res.ok Fl.next _ = _
    rw [List.length_nil]
    simp
  | x :: r, left, row, s4, ct, hl, hz, hc0, hc => by
    rw [List.length_cons] at hl hc
    obtain ⟨v, v0, v1, hv⟩ := next_ok ns (left.length : Nat) ct h0 h1 hc0 (by omega) (by omega)
    obtain ⟨t, rfl⟩ : ∃ t : Nat, v = (t : Nat) := ⟨v.toNat, by omega⟩
    have ht : t < left.length := by omega
    have hxe : (left.map PyData.int)[t]? = some (.int left[t]) := by simp [List.getElem?_eq_getElem ht]
    obtain ⟨row', t4, e, hp⟩ := drawn_loop ns h0 h1 n r (left.eraseIdx t) (row ++ [left[t]]) (.dat x) (ct + 1) (by rw [List.length_eraseIdx_of_lt ht]; omega) (by rw [List.length_eraseIdx_of_lt ht, List.length_append]; simp; omega) (by omega) (by omega)
    refine ⟨row', t4, ?_, ?_⟩
    · have e2 : forM (x :: r) (putM 4) (dBody ns) (Sd n left row s4 ct) = (goG (putM 4 x) (dBody ns) (Sd n left row s4 ct)).bind fun f => match f with
        | .next => forM r (putM 4) (dBody ns)
        | .cont => forM r (putM 4) (dBody ns)
        | .brk => nextM
        | .ret d => pureM (.ret d) := rfl
      have hs : (row.map PyData.int).length < sizeLine := by rw [List.length_map]; exact small _ (by omega)
      have ea : (lenV 2) (Sd n left row (.dat x) ct) = .ok (.int (left.length : Nat)) (Sd n left row (.dat x) ct) := by
        show Res.ok (PyData.int ((left.map PyData.int).length : Nat)) _ = _
        rw [List.length_map]
      have en : (callM h_L_next ns (staM 0 (consM (lenV 2) (pureM [])))) (Sd n left row (.dat x) ct) = .ok (eN t) (Sd n left row (.dat x) (ct + 1)) := by
        refine ev_call (g1 := Sd n left row (.dat x) ct) (ss := [.sta, .dat (.int (left.length : Nat))]) ?_ hv
        exact ev_bind (a := [.int (left.length : Nat)]) (g1 := Sd n left row (.dat x) ct) (ev_cons (g1 := Sd n left row (.dat x) ct) ea rfl) rfl
      have ep := ev_popN (i := 2) (g := Sd n left row (.dat x) ct) (g1 := Sd n left row (.dat x) (ct + 1)) (ys := left.map PyData.int) (xs := left.map PyData.int) (t := t) (by omega) rfl en rfl hxe
      rw [er_map] at ep
      have eb : goG (putM 4 x) (dBody ns) (Sd n left row s4 ct) = .ok .next (Sd n (left.eraseIdx t) (row ++ [left[t]]) (.dat x) (ct + 1)) := by
        refine ev_go (g1 := Sd n left row (.dat x) ct) rfl (ev_next (g1 := Sd n (left.eraseIdx t) (row ++ [left[t]]) (.dat x) (ct + 1)) ?_ rfl)
        have := ev_app (i := 3) (g := Sd n left row (.dat x) ct) (xs := row.map PyData.int) (xs' := row.map PyData.int) rfl ep rfl hs
        rw [this]
        have em : row.map PyData.int ++ [PyData.int left[t]] = (row ++ [left[t]]).map PyData.int := by rw [List.map_append]; rfl
        rw [em]
        rfl
      rw [e2, eb]
      have ec : ct + ((x :: r).length : Nat) = ct + 1 + (r.length : Nat) := by rw [List.length_cons]; omega
      rw [ec]
      exact e
    · refine hp.trans ?_
      rw [List.append_assoc]
      exact List.Perm.append_left row (cons_erase left t ht)
theorem pick_three (v : Int) (h0 : 0 ≤ v) (h1 : v < 3) : ∃ q : Int, L2.atI [PyData.int 6, .int 12, .int 40] v = some (.int q) ∧ 0 < q ∧ q ≤ 40 := by
  have hv : v = 0 ∨ v = 1 ∨ v = 2 := by omega
  rcases hv with e | e | e <;> subst e
  · exact ⟨6, L2.atI_nat (j := 0) rfl, by decide, by decide⟩
  · exact ⟨12, L2.atI_nat (j := 1) rfl, by decide, by decide⟩
  · exact ⟨40, L2.atI_nat (j := 2) rfl, by decide, by decide⟩
theorem drawn_tells (ns : List Int) (ct : Int) (h0 : ns ≠ []) (h1 : ns.length ≤ 4000) (hc0 : 0 ≤ ct) (hc : ct ≤ 900) : ∃ row ct', rowOk row ∧ ct ≤ ct' ∧ ct' ≤ ct + 45 ∧ Tells h_L_drawn ns [.sta] ct (eT row) ct' := by
  obtain ⟨v, v0, v1, hv⟩ := next_ok ns 3 ct h0 h1 hc0 (by omega) (by decide)
  obtain ⟨q, hq, q0, q1⟩ := pick_three v v0 v1
  obtain ⟨u, u0, u1, hu⟩ := next_ok ns q (ct + 1) h0 h1 (by omega) (by omega) q0
  obtain ⟨n, hn⟩ : ∃ n : Int, n = 1 + u := ⟨_, rfl⟩
  have hnl : ((rngI 0 n).map PyData.int).length = n.toNat := by rw [List.length_map, len_rngI]; omega
  have hsl : (startL n).length = n.toNat := by unfold startL; rw [List.length_map, len_rngI]; omega
  obtain ⟨row, t4, e, hp⟩ := drawn_loop ns h0 h1 n ((rngI 0 n).map PyData.int) (startL n) [] .no (ct + 1 + 1) (by rw [hnl, hsl]) (by rw [hsl]; simp; omega) (by omega) (by rw [hnl]; omega)
  rw [hnl] at e
  rw [List.nil_append] at hp
  obtain ⟨c2, hc2⟩ : ∃ c2 : Int, c2 = ct + 1 + 1 + (n.toNat : Nat) := ⟨_, rfl⟩
  rw [← hc2] at e
  obtain ⟨z, z0, z1, hz⟩ := next_ok ns 4 c2 h0 h1 (by omega) (by omega) (by decide)
  have hs : (isort row).Perm (startL n) := (isort_perm row).trans hp
  obtain ⟨res, hres, hcase⟩ := pick_four (eT row) (eT row) (eT (isort row)) (eT (isort row).reverse) z z0 z1
  have hrow : ∃ r, res = eT r ∧ rowOk r := by
    rcases hcase with e | e | e | e
    · exact ⟨row, e, rowOk_perm (by omega) (by omega) hp⟩
    · exact ⟨row, e, rowOk_perm (by omega) (by omega) hp⟩
    · exact ⟨_, e, rowOk_perm (by omega) (by omega) hs⟩
    · exact ⟨_, e, rowOk_perm (by omega) (by omega) ((List.reverse_perm _).trans hs)⟩
  obtain ⟨r, rfl, hr⟩ := hrow
  refine ⟨r, c2 + 1, hr, by omega, by omega, ?_⟩
  let S0 : Int → Sg := fun c => ⟨[.sta, .no, .no, .no, .no], c⟩
  let S1 : Sg := ⟨[.sta, .dat (.int n), .no, .no, .no], ct + 1 + 1⟩
  let S2 : Sg := ⟨[.sta, .dat (.int n), .own ((startL n).map PyData.int), .no, .no], ct + 1 + 1⟩
  let S3 : Sg := Sd n (startL n) [] .no (ct + 1 + 1)
  let S5 : Int → Sg := fun c => ⟨[.sta, .dat (.int n), .own [], .dat (.list (row.map PyData.int)), t4], c⟩
  have hs3 := sorted_L row
  refine tells_fn (g := S5 (c2 + 1)) rfl (ev_next (g1 := S1) ?_ (ev_next (g1 := S2) ?_ (ev_next (g1 := S3) rfl (ev_next (ev_for (g1 := S3) (xs := (rngI 0 n).map PyData.int) (ev_srcA (ds := [.int n]) rfl (rng1_i n (by omega) (by omega))) e) (ev_stop (ev_ret (ev_op2 (g1 := S5 c2) (g2 := S5 (c2 + 1)) (x := .list [eT row, eT row, eT (isort row), eT (isort row).reverse]) (y := .int z) (ev_lst ?_) (ev_call (g1 := S5 c2) (ss := [.sta, .dat (.int 4)]) rfl hz) hres)) (fun z => nomatch z))))))
  · refine ev_asg (g1 := S0 (ct + 1 + 1)) (d := .int n) (ev_op2 (g1 := S0 ct) (g2 := S0 (ct + 1 + 1)) (x := .int 1) (y := .int u) rfl ?_ (by rw [hn]; rfl)) rfl
    refine ev_call (g1 := S0 (ct + 1)) (ss := [.sta, .dat (.int q)]) ?_ hu
    refine ev_bind (a := [.int q]) (g1 := S0 (ct + 1)) (ev_cons (g1 := S0 (ct + 1)) (ev_op2 (g1 := S0 ct) (g2 := S0 (ct + 1)) (x := .list [.int 6, .int 12, .int 40]) (y := .int v) (ev_lst (ev_guard (ds := [.int 6, .int 12, .int 40]) rfl (size_le 3 (by decide)))) (ev_call (g1 := S0 ct) (ss := [.sta, .dat (.int 3)]) rfl hv) hq) rfl) rfl
  · refine ev_bind (a := (startL n).map PyData.int) (g1 := S1) ?_ rfl
    have := lcTm (src := srcA rng1 (consM (getM 1) (pureM []))) (k := putM 4) (e := op2 subD (op2 mulXD (pureM (.int 3)) (getM 4)) (pureM (.int 7))) (vs := [4]) (g := S1) (g1 := S1) PyData.int (rngI 0 n) (fun k => .int (3 * k - 7)) (ev_srcA (ds := [.int n]) rfl (rng1_i n (by omega) (by omega))) (fun x hx => by
      have hm : mulXD (.int 3) (.int x) = some (.int (3 * x)) := mulS (.inl (by decide))
      let S4 : Sg := ⟨[.sta, .dat (.int n), .no, .no, .dat (.int x)], ct + 1 + 1⟩
      exact ⟨S4, S4, rfl, ev_op2 (g1 := S4) (g2 := S4) (ev_op2 (g1 := S4) (g2 := S4) rfl rfl hm) rfl rfl, rfl⟩) (size_le _ (by rw [len_rngI]; omega))
    rw [this]
    unfold startL
    rw [List.map_map]
    rfl
  · refine ev_guard (ds := [eT row, eT row, eT (isort row), eT (isort row).reverse]) ?_ (size_le 4 (by decide))
    refine ev_cons (g1 := S5 c2) rfl (ev_cons (g1 := S5 c2) rfl (ev_cons (g1 := S5 c2) (ev_opN (xs := [.list ((isort row).map PyData.int)]) (ev_cons (g1 := S5 c2) (ev_opN (xs := [.list (row.map PyData.int)]) rfl hs3) rfl) rfl) (ev_cons (g1 := S5 c2) (ev_op1 (g1 := S5 c2) (x := eT (isort row)) (ev_opN (xs := [.list ((isort row).map PyData.int)]) (ev_cons (g1 := S5 c2) (ev_opN (xs := [.list (row.map PyData.int)]) rfl hs3) rfl) rfl) ?_) rfl)))
    show some (PyData.tuple ((isort row).map PyData.int).reverse) = _
    rw [← List.map_reverse]
end K50

set_option Elab.async false
set_option linter.all false
set_option maxRecDepth 100000
set_option maxHeartbeats 4000000
/-! K50p: the statements of the law's turn. -/
namespace K50
open PySem PySem.Spec L2 DL
abbrev q1 (ns : List Int) : M Fl := (asgM (callM h_L_drawn ns (staM 1 (pureM []))) (putM 3))
abbrev q2 (ns : List Int) : M Fl := (asgM (opN lenD (consM (getM 3) (pureM []))) (putM 4))
abbrev q3 (ns : List Int) : M Fl := (asgM (callM h_L_steps ns (datsM (consM (getM 3) (pureM [])))) (putM 5))
abbrev q4 (ns : List Int) : M Fl := (asgM (callM h_L_rounds ns (datsM (consM (getM 3) (pureM [])))) (putM 6))
abbrev q5 (ns : List Int) : M Fl := (ifM (notM (asB (callM h_L_same ns (datsM (consM (lstM (lcM (srcA rng1 (consM (pureM (.int 5)) (pureM []))) (putM 16) yesM (callM h_L_told ns (datsM (consM (getM 16) (consM (getM 3) (consM (pureM (.int 0)) (pureM [])))))) [16])) (consM (lstM (guardL (consM (tupM (consM (pureM (.str "told")) (consM (opN tupleOfD (consM (getM 5) (pureM []))) (pureM [])))) (consM (tupM (consM (pureM (.str "told")) (consM (opN sumD (consM (getM 5) (pureM []))) (pureM [])))) (consM (tupM (consM (pureM (.str "told")) (consM (opN maxD (consM (getM 5) (pureM []))) (pureM [])))) (consM (tupM (consM (pureM (.str "told")) (consM (getM 6) (pureM [])))) (consM (tupM (consM (pureM (.str "told")) (consM (op2 subD (opN lenD (consM (getM 6) (pureM []))) (pureM (.int 1))) (pureM [])))) (pureM [])))))))) (pureM [])))))))
  (seqM (retM (pureM (.bool false)))
  nextM)
  nextM)
abbrev q6 (ns : List Int) : M Fl := (ifM (orM (asB (op2 gtD (opN lenD (consM (lstM (lcM (srcA rng1 (consM (op2 subD (opN lenD (consM (getM 6) (pureM []))) (pureM (.int 1))) (pureM []))) (putM 16) (asB (op2 gtD (op2 mulXD (pureM (.int 2)) (opN lenD (consM (op2 ixD (getM 6) (op2 addD (getM 16) (pureM (.int 1)))) (pureM [])))) (opN lenD (consM (op2 ixD (getM 6) (getM 16)) (pureM []))))) (getM 16) [16])) (pureM []))) (pureM (.int 0)))) (notM (asB (chainM leD leD (op2 subD (op2 mulXD (pureM (.int 2)) (getM 4)) (pureM (.int 1))) (opN sumD (consM (getM 5) (pureM []))) (op2 fdivD (op2 mulXD (getM 4) (op2 addD (getM 4) (pureM (.int 1)))) (pureM (.int 2)))))))
  (seqM (retM (pureM (.bool false)))
  nextM)
  nextM)
abbrev q7 (ns : List Int) : M Fl := (asgM (callM h_L_next ns (staM 1 (consM (getM 4) (pureM [])))) (putM 7))
abbrev q8 (ns : List Int) : M Fl := (ifM (orM (asB (op2 neD (callM h_L_told ns (datsM (consM (pureM (.int 12)) (consM (getM 3) (consM (getM 7) (pureM [])))))) (tupM (consM (pureM (.str "told")) (consM (op2 modD (op2 addD (getM 7) (op2 ixD (getM 5) (getM 7))) (getM 4)) (pureM [])))))) (asB (op2 neD (lstM (lcM (srcM (lstM (guardL (consM (op1 negD (pureM (.int 1))) (consM (getM 4) (pureM [])))))) (putM 19) yesM (callM h_L_told ns (datsM (consM (pureM (.int 12)) (consM (getM 3) (consM (getM 19) (pureM [])))))) [19])) (op2 mulXD (lstM (guardL (consM (pureM (.str "refused")) (pureM [])))) (pureM (.int 2))))))
  (seqM (retM (pureM (.bool false)))
  nextM)
  nextM)
abbrev q9 (ns : List Int) : M Fl := (asgM (op2 addD (pureM (.int 1)) (callM h_L_next ns (staM 1 (consM (op2 ixD (lstM (guardL (consM (pureM (.int 6)) (consM (pureM (.int 7)) (pureM []))))) (opN intD (consM (op2 eqD (callM h_L_next ns (staM 1 (consM (pureM (.int 6)) (pureM [])))) (pureM (.int 0))) (pureM [])))) (pureM []))))) (putM 8))
abbrev q10 (ns : List Int) : M Fl := (asgM (lstM (lcM (srcM (callM h_L_all ns (datsM (consM (getM 8) (pureM []))))) (putM 19) yesM (opN sumD (consM (callM h_L_steps ns (datsM (consM (getM 19) (pureM [])))) (pureM []))) [19])) (putM 9))
abbrev q11 (ns : List Int) : M Fl := (asgM (opN tupleOfD (consM (lstM (lcM (srcM (op1 sortSetD (getM 9))) (putM 19) yesM (tupM (consM (getM 19) (consM (cntM (getM 9) (getM 19)) (pureM [])))) [19])) (pureM []))) (putM 10))
abbrev q12 (ns : List Int) : M Fl := (asgM (lstM (guardL (consM (opN maxD (consM (getM 9) (pureM []))) (consM (opN minD (consM (getM 9) (pureM []))) (consM (callM h_L_terms ns (datsM (consM (opN sumD (consM (getM 9) (pureM []))) (consM (opN lenD (consM (getM 9) (pureM []))) (pureM []))))) (consM (getM 10) (pureM []))))))) (putM 11))
abbrev q13 (ns : List Int) : M Fl := (ifM (notM (asB (callM h_L_same ns (datsM (consM (lstM (lcM (srcM (lstM (guardL (consM (pureM (.int 5)) (consM (pureM (.int 6)) (consM (pureM (.int 7)) (consM (pureM (.int 8)) (pureM [])))))))) (putM 16) yesM (callM h_L_told ns (datsM (consM (getM 16) (consM (getM 8) (consM (pureM (.int 0)) (pureM [])))))) [16])) (consM (lstM (lcM (srcM (getM 11)) (putM 19) yesM (tupM (consM (pureM (.str "told")) (consM (getM 19) (pureM [])))) [19])) (pureM [])))))))
  (seqM (retM (pureM (.bool false)))
  nextM)
  nextM)
abbrev q14 (ns : List Int) : M Fl := (asgM (callM h_L_next ns (staM 1 (consM (op2 addD (opN maxD (consM (getM 9) (pureM []))) (pureM (.int 3))) (pureM [])))) (putM 12))
abbrev q15 (ns : List Int) : M Fl := (ifM (asB (op2 neD (callM h_L_told ns (datsM (consM (pureM (.int 10)) (consM (getM 8) (consM (getM 12) (pureM [])))))) (tupM (consM (pureM (.str "told")) (consM (cntM (getM 9) (getM 12)) (pureM []))))))
  (seqM (retM (pureM (.bool false)))
  nextM)
  nextM)
abbrev q16 (ns : List Int) : M Fl := (asgM (callM h_L_told ns (datsM (consM (pureM (.int 11)) (consM (getM 8) (consM (getM 12) (pureM [])))))) (putM 13))
abbrev q17 (ns : List Int) : M Fl := (ifM (asB (op2 neD (op2 eqD (getM 13) (pureM (.str "refused"))) (op2 (inD true) (getM 12) (getM 9))))
  (seqM (retM (pureM (.bool false)))
  nextM)
  nextM)
abbrev q18 (ns : List Int) : M Fl := (ifM (andM (asB (op2 neD (getM 13) (pureM (.str "refused")))) (orM (asB (op2 neD (opN sortedTD (consM (op2 ixD (getM 13) (pureM (.int 1))) (pureM []))) (lstM (lrgF (getM 8))))) (orM (asB (op2 neD (op2 ixD (op2 ixD (getM 13) (pureM (.int 1))) (pureM (.int 0))) (op2 subD (getM 8) (pureM (.int 1))))) (asB (op2 neD (opN sumD (consM (callM h_L_steps ns (datsM (consM (op2 ixD (getM 13) (pureM (.int 1))) (pureM [])))) (pureM []))) (getM 12))))))
  (seqM (retM (pureM (.bool false)))
  nextM)
  nextM)
abbrev q19 (ns : List Int) : M Fl := (asgM (op2 addD (pureM (.int 8)) (callM h_L_next ns (staM 1 (consM (pureM (.int 33)) (pureM []))))) (putM 14))
abbrev q20 (ns : List Int) : M Fl := (asgM (op2 addD (op2 subD (op2 mulXD (pureM (.int 2)) (getM 14)) (pureM (.int 1))) (op2 modD (op2 addD (op2 mulXD (callM h_L_next ns (staM 1 (consM (pureM (.int 1009)) (pureM [])))) (pureM (.int 7))) (callM h_L_next ns (staM 1 (consM (pureM (.int 7)) (pureM []))))) (op2 addD (op2 fdivD (op2 mulXD (op2 subD (getM 14) (pureM (.int 1))) (op2 subD (getM 14) (pureM (.int 2)))) (pureM (.int 2))) (pureM (.int 1))))) (putM 12))
abbrev q21 (ns : List Int) : M Fl := (asgM (callM h_L_told ns (datsM (consM (pureM (.int 11)) (consM (getM 14) (consM (getM 12) (pureM [])))))) (putM 13))
abbrev q22 (ns : List Int) : M Fl := (ifM (orM (asB (op2 neD (op2 ixD (getM 13) (pureM (.int 0))) (pureM (.str "told")))) (orM (asB (op2 neD (opN sortedTD (consM (op2 ixD (getM 13) (pureM (.int 1))) (pureM []))) (lstM (lrgF (getM 14))))) (orM (asB (op2 neD (op2 ixD (op2 ixD (getM 13) (pureM (.int 1))) (pureM (.int 0))) (op2 subD (getM 14) (pureM (.int 1))))) (asB (op2 neD (opN sumD (consM (callM h_L_steps ns (datsM (consM (op2 ixD (getM 13) (pureM (.int 1))) (pureM [])))) (pureM []))) (getM 12))))))
  (seqM (retM (pureM (.bool false)))
  nextM)
  nextM)
abbrev q23 (ns : List Int) : M Fl := (asgM (pureM (.int 1)) (putM 15))
abbrev q24 (ns : List Int) : M Fl := (forS (srcA rng2 (consM (pureM (.int 2)) (consM (op2 addD (getM 14) (pureM (.int 1))) (pureM [])))) (putM 16)
  (seqM (asgM (op2 mulXD (getM 15) (getM 16)) (putM 15))
  nextM))
abbrev q25 (ns : List Int) : M Fl := (asgM (callM h_L_terms ns (datsM (consM (opN sumD (consM (lstM (lcM (srcA rng2 (consM (pureM (.int 1)) (consM (op2 addD (getM 14) (pureM (.int 1))) (pureM [])))) (putM 16) yesM (op2 mulXD (getM 14) (op2 fdivD (getM 15) (getM 16))) [16])) (pureM []))) (consM (getM 15) (pureM []))))) (putM 17))
abbrev q26 (ns : List Int) : M Fl := (ifM (notM (asB (callM h_L_same ns (datsM (consM (lstM (lcM (srcM (lstM (guardL (consM (pureM (.int 5)) (consM (pureM (.int 6)) (consM (pureM (.int 7)) (pureM []))))))) (putM 16) yesM (callM h_L_told ns (datsM (consM (getM 16) (consM (getM 14) (consM (pureM (.int 0)) (pureM [])))))) [16])) (consM (lstM (guardL (consM (tupM (consM (pureM (.str "told")) (consM (op2 fdivD (op2 mulXD (getM 14) (op2 addD (getM 14) (pureM (.int 1)))) (pureM (.int 2))) (pureM [])))) (consM (tupM (consM (pureM (.str "told")) (consM (op2 subD (op2 mulXD (pureM (.int 2)) (getM 14)) (pureM (.int 1))) (pureM [])))) (consM (tupM (consM (pureM (.str "told")) (consM (getM 17) (pureM [])))) (pureM [])))))) (pureM [])))))))
  (seqM (retM (pureM (.bool false)))
  nextM)
  nextM)
abbrev q27 (ns : List Int) : M Fl := (ifM (orM (asB (op2 neD (callM h_L_told ns (datsM (consM (pureM (.int 9)) (consM (getM 8) (consM (pureM (.int 0)) (pureM [])))))) (tupM (consM (pureM (.str "told")) (consM (opN maxD (consM (lstM (lcM (srcM (callM h_L_all ns (datsM (consM (getM 8) (pureM []))))) (putM 19) yesM (op2 subD (opN lenD (consM (callM h_L_rounds ns (datsM (consM (getM 19) (pureM [])))) (pureM []))) (pureM (.int 1))) [19])) (pureM []))) (pureM [])))))) (asB (op2 neD (callM h_L_told ns (datsM (consM (pureM (.int 9)) (consM (getM 14) (consM (pureM (.int 0)) (pureM [])))))) (tupM (consM (pureM (.str "told")) (consM (op2 ixD (lstM (guardL (consM (pureM (.int 3)) (consM (pureM (.int 4)) (consM (pureM (.int 5)) (pureM [])))))) (op2 addD (opN intD (consM (op2 gtD (getM 14) (pureM (.int 15))) (pureM []))) (opN intD (consM (op2 gtD (getM 14) (pureM (.int 31))) (pureM []))))) (pureM [])))))))
  (seqM (retM (pureM (.bool false)))
  nextM)
  nextM)
abbrev q28 (ns : List Int) : M Fl := (ifM (orM (asB (op2 neD (op2 addD (lstM (lcM (srcA rng1 (consM (pureM (.int 5)) (pureM []))) (putM 16) yesM (callM h_L_told ns (datsM (consM (getM 16) (consM (tupM (pureM [])) (consM (pureM (.int 0)) (pureM [])))))) [16])) (lstM (lcM (srcA rng1 (consM (pureM (.int 5)) (pureM []))) (putM 16) yesM (callM h_L_told ns (datsM (consM (getM 16) (consM (tupM (consM (pureM (.int 1)) (consM (pureM (.int 1)) (pureM [])))) (consM (pureM (.int 0)) (pureM [])))))) [16]))) (op2 mulXD (lstM (guardL (consM (pureM (.str "refused")) (pureM [])))) (pureM (.int 10))))) (asB (op2 neD (lstM (lcM (srcM (lstM (guardL (consM (tupM (pureM [])) (consM (tupM (consM (pureM (.int 2)) (consM (pureM (.int 1)) (consM (pureM (.int 2)) (pureM []))))) (pureM [])))))) (putM 19) yesM (callM h_L_told ns (datsM (consM (pureM (.int 12)) (consM (getM 19) (consM (pureM (.int 0)) (pureM [])))))) [19])) (op2 mulXD (lstM (guardL (consM (pureM (.str "refused")) (pureM [])))) (pureM (.int 2))))))
  (seqM (retM (pureM (.bool false)))
  nextM)
  nextM)
abbrev q29 (ns : List Int) : M Fl := (ifM (asB (op2 neD (op2 addD (lstM (lcM (srcA rng2 (consM (pureM (.int 5)) (consM (pureM (.int 12)) (pureM [])))) (putM 16) yesM (callM h_L_told ns (datsM (consM (getM 16) (consM (pureM (.int 0)) (consM (pureM (.int 2)) (pureM [])))))) [16])) (lstM (lcM (srcA rng2 (consM (pureM (.int 5)) (consM (pureM (.int 12)) (pureM [])))) (putM 16) yesM (callM h_L_told ns (datsM (consM (getM 16) (consM (op1 negD (pureM (.int 1))) (consM (pureM (.int 2)) (pureM [])))))) [16]))) (op2 mulXD (lstM (guardL (consM (pureM (.str "refused")) (pureM [])))) (pureM (.int 14)))))
  (seqM (retM (pureM (.bool false)))
  nextM)
  nextM)
abbrev q30 (ns : List Int) : M Fl := (asgM (trgM (pureM (.int 41))) (putM 18))
abbrev q31 (ns : List Int) : M Fl := (ifM (asB (op2 neD (op2 addD (op2 addD (op2 addD (lstM (lcM (srcM (lstM (guardL (consM (pureM (.int 0)) (consM (pureM (.int 1)) (consM (pureM (.int 2)) (consM (pureM (.int 3)) (consM (pureM (.int 4)) (consM (pureM (.int 12)) (pureM [])))))))))) (putM 16) yesM (callM h_L_told ns (datsM (consM (getM 16) (consM (getM 18) (consM (pureM (.int 0)) (pureM [])))))) [16])) (lstM (lcM (srcA rng1 (consM (pureM (.int 5)) (pureM []))) (putM 16) yesM (callM h_L_told ns (datsM (consM (getM 16) (consM (tupM (consM (pureM (.int 1000001)) (pureM []))) (consM (pureM (.int 0)) (pureM [])))))) [16]))) (lstM (lcM (srcM (lstM (guardL (consM (pureM (.int 5)) (consM (pureM (.int 6)) (consM (pureM (.int 7)) (consM (pureM (.int 9)) (consM (pureM (.int 11)) (pureM []))))))))) (putM 16) yesM (callM h_L_told ns (datsM (consM (getM 16) (consM (pureM (.int 41)) (consM (pureM (.int 99)) (pureM [])))))) [16]))) (lstM (lcM (srcM (lstM (guardL (consM (pureM (.int 8)) (consM (pureM (.int 10)) (pureM [])))))) (putM 16) yesM (callM h_L_told ns (datsM (consM (getM 16) (consM (pureM (.int 8)) (consM (pureM (.int 15)) (pureM [])))))) [16]))) (op2 mulXD (lstM (guardL (consM (pureM (.str "large")) (pureM [])))) (pureM (.int 18)))))
  (seqM (retM (pureM (.bool false)))
  nextM)
  nextM)
abbrev qAll (ns : List Int) : M Fl := (seqM (q1 ns) (seqM (q2 ns) (seqM (q3 ns) (seqM (q4 ns) (seqM (q5 ns) (seqM (q6 ns) (seqM (q7 ns) (seqM (q8 ns) (seqM (q9 ns) (seqM (q10 ns) (seqM (q11 ns) (seqM (q12 ns) (seqM (q13 ns) (seqM (q14 ns) (seqM (q15 ns) (seqM (q16 ns) (seqM (q17 ns) (seqM (q18 ns) (seqM (q19 ns) (seqM (q20 ns) (seqM (q21 ns) (seqM (q22 ns) (seqM (q23 ns) (seqM (q24 ns) (seqM (q25 ns) (seqM (q26 ns) (seqM (q27 ns) (seqM (q28 ns) (seqM (q29 ns) (seqM (q30 ns) (seqM (q31 ns) nextM)))))))))))))))))))))))))))))))
theorem m_law_is (ns : List Int) : m_law ns = (seqM (forS (srcA rng1 (consM (pureM (.int 5)) (pureM []))) (putM 2) (qAll ns)) (seqM (retM (op2 eqD (tupM (consM (pureM (.int 40)) (consM (pureM (.int 7)) (consM (pureM (.int 1000000)) (pureM []))))) (tupM (consM (pureM (.int 40)) (consM (pureM (.int 7)) (consM (pureM (.int 1000000)) (pureM []))))))) nextM)) := rfl
structure LS where
  s2 : DL.Slot
  s3 : DL.Slot
  s4 : DL.Slot
  s5 : DL.Slot
  s6 : DL.Slot
  s7 : DL.Slot
  s8 : DL.Slot
  s9 : DL.Slot
  s10 : DL.Slot
  s11 : DL.Slot
  s12 : DL.Slot
  s13 : DL.Slot
  s14 : DL.Slot
  s15 : DL.Slot
  s17 : DL.Slot
  s18 : DL.Slot
def Lg (l : LS) (ct : Int) : Sg := ⟨[.no, .sta, l.s2, l.s3, l.s4, l.s5, l.s6, l.s7, l.s8, l.s9, l.s10, l.s11, l.s12, l.s13, l.s14, l.s15, .no, l.s17, l.s18, .no], ct⟩
/-- within a comprehension -/
def Lh (l : LS) (y x : DL.Slot) (ct : Int) : Sg := ⟨[.no, .sta, l.s2, l.s3, l.s4, l.s5, l.s6, l.s7, l.s8, l.s9, l.s10, l.s11, l.s12, l.s13, l.s14, l.s15, y, l.s17, l.s18, x], ct⟩
end K50

set_option Elab.async false
set_option linter.all false
set_option maxRecDepth 100000
set_option maxHeartbeats 4000000
/-! K50q: the law's turn, its first part: the drawn row. -/
namespace K50
open PySem PySem.Spec L2 DL
theorem ne_same {d : D} (h : SeqAt.shaped d = true) : neD d d = some (.bool false) := by
  unfold neD
  rw [if_pos ⟨h, h⟩, SeqAt.eqv_refl d (canLay_shaped h)]
  rfl
theorem lg_ne {f k : M D} {d : D} {g g1 g2 : Sg} (h1 : f g = .ok d g1) (h2 : k g1 = .ok d g2) (h : SeqAt.shaped d = true) : (asB (op2 neD f k)) g = .ok false g2 := ev_asB (ev_op2 h1 h2 (ne_same h))
def L1 (l : LS) (row : List Int) : LS := { l with s3 := .dat (eT row), s4 := .dat (eN row.length), s5 := .dat (.list ((stepsL row).map eN)), s6 := .dat (.list (eTs (roundsL row))) }
theorem q1_ok (ns : List Int) (l : LS) (ct : Int) (h0 : ns ≠ []) (h1 : ns.length ≤ 4000) (hc0 : 0 ≤ ct) (hc : ct ≤ 900) : ∃ row ct', rowOk row ∧ ct ≤ ct' ∧ ct' ≤ ct + 45 ∧ q1 ns (Lg l ct) = .ok .next (Lg { l with s3 := .dat (eT row) } ct') := by
  obtain ⟨row, ct', hr, c1, c2, ht⟩ := drawn_tells ns ct h0 h1 hc0 hc
  exact ⟨row, ct', hr, c1, c2, ev_asg (g1 := Lg l ct') (d := eT row) (ev_call (g1 := Lg l ct) (ss := [.sta]) rfl ht) rfl⟩
theorem q234_ok (ns : List Int) (l : LS) (row : List Int) (ct : Int) (hr : rowOk row) (rest : M Fl) : (seqM (q2 ns) (seqM (q3 ns) (seqM (q4 ns) rest))) (Lg { l with s3 := .dat (eT row) } ct) = rest (Lg (L1 l row) ct) := by
  have hl := hr.1.2.1
  have h1 : 1 ≤ row.length := List.length_pos_iff.mpr hr.1.1
  have e2 := L_steps_tells ns row ct h1 (by omega)
  have e3 := L_rounds_tells ns row ct hl
  refine ev_next (g1 := Lg { l with s3 := .dat (eT row), s4 := .dat (eN row.length) } ct) (ev_asg (d := eN row.length) (g1 := Lg { l with s3 := .dat (eT row) } ct) (ev_opN (xs := [eT row]) rfl (len_T row)) rfl) ?_
  refine ev_next (g1 := Lg { l with s3 := .dat (eT row), s4 := .dat (eN row.length), s5 := .dat (.list ((stepsL row).map eN)) } ct) (ev_asg (d := .list ((stepsL row).map eN)) (g1 := Lg { l with s3 := .dat (eT row), s4 := .dat (eN row.length) } ct) (ev_call (g1 := Lg { l with s3 := .dat (eT row), s4 := .dat (eN row.length) } ct) (ss := [.dat (eT row)]) rfl e2) rfl) ?_
  exact ev_next (g1 := Lg (L1 l row) ct) (ev_asg (d := .list (eTs (roundsL row))) (g1 := Lg { l with s3 := .dat (eT row), s4 := .dat (eN row.length), s5 := .dat (.list ((stepsL row).map eN)) } ct) (ev_call (g1 := Lg { l with s3 := .dat (eT row), s4 := .dat (eN row.length), s5 := .dat (.list ((stepsL row).map eN)) } ct) (ss := [.dat (eT row)]) rfl e3) rfl) rfl
/-! what is small enough -/
theorem farL_le {row : List Int} (h1 : 1 ≤ row.length) (j : Nat) : farL row j ≤ row.length := (farL_spec (row := row) (i := j) h1).2.1
theorem fineN {n : Nat} (h : n ≤ 1200) : Fine 0 20 (eN n) := Fine.int (by omega) (by omega)
theorem mxL_mem {l : List Nat} (h : l ≠ []) : ∃ n ∈ l, mxL l = (n : Nat) := by
  unfold mxL
  cases l with
  | nil => exact (h rfl).elim
  | cons x r =>
    have := (foldl_max_mem (r.map fun n : Nat => (n : Int)) (x : Int)).1
    rw [← List.map_cons (f := fun n : Nat => (n : Int)) (a := x)] at this
    obtain ⟨n, hn, e⟩ := List.mem_map.mp this
    exact ⟨n, hn, e.symm⟩
theorem rounds_sub (row : List Int) : ∀ (k : Nat), (roundsF k row).length ≤ k + 1
  | 0 => Nat.le_refl 1
  | k + 1 => by
    unfold roundsF
    split
    · rw [List.length_cons]
      have := rounds_sub (roundL row) k
      omega
    · simp
theorem roundL_mem {row : List Int} {x : Int} (h : x ∈ roundL row) : x ∈ row := by
  unfold roundL at h
  obtain ⟨i, hi, rfl⟩ := List.mem_map.mp h
  exact gI_mem (List.mem_range.mp (List.mem_filter.mp hi).1)
theorem rounds_words : ∀ (k : Nat) (row : List Int), ∀ w ∈ roundsF k row, w.length ≤ row.length ∧ ∀ x ∈ w, x ∈ row
  | 0, row, w, h => by
    obtain rfl := List.mem_singleton.mp h
    exact ⟨Nat.le_refl _, fun x hx => hx⟩
  | k + 1, row, w, h => by
    unfold roundsF at h
    split at h
    · rcases List.mem_cons.mp h with rfl | h
      · exact ⟨Nat.le_refl _, fun x hx => hx⟩
      · obtain ⟨h1, h2⟩ := rounds_words k (roundL row) w h
        have := keep_half row
        exact ⟨by omega, fun x hx => roundL_mem (h2 x hx)⟩
    · obtain rfl := List.mem_singleton.mp h
      exact ⟨Nat.le_refl _, fun x hx => hx⟩
theorem fine_row {row : List Int} (h : rowOk row) (k : Int) : Fine 2 6000 (rowR row k) := by
  have hl := h.1.2.1
  have h1 : 1 ≤ row.length := List.length_pos_iff.mpr h.1.1
  unfold rowR
  have hst : ∀ n ∈ stepsL row, n ≤ 40 := fun n hn => by
    unfold stepsL at hn
    obtain ⟨j, _, rfl⟩ := List.mem_map.mp hn
    have := farL_le h1 j
    omega
  split
  · refine (Fine.tuple (k := 0) (n := 20) (L := 40) (fun x hx => ?_) (by rw [List.length_map, steps_len]; exact hl)).mono (by decide) (by decide)
    obtain ⟨n, hn, rfl⟩ := List.mem_map.mp hx
    exact fineN (by have := hst n hn; omega)
  · split
    · refine (fineN ?_).mono (by decide) (by decide)
      have := steps_upper h.1.2.2.1
      have : row.length * (row.length + 1) ≤ 40 * 41 := Nat.mul_le_mul hl (by omega)
      omega
    · split
      · obtain ⟨n, hn, e⟩ := mxL_mem (steps_ne h.1)
        rw [e]
        have := hst n hn
        exact (fineN (by omega)).mono (by decide) (by decide)
      · split
        · refine (Fine.list (k := 1) (n := 840) (L := 7) (fun x hx => ?_) (by unfold eTs roundsL; rw [List.length_map]; exact rounds_sub row 6)).mono (by decide) (by decide)
          obtain ⟨w, hw, rfl⟩ := List.mem_map.mp hx
          obtain ⟨w1, w2⟩ := rounds_words 6 row w hw
          exact Fine.word (fun x hx => h.2 x (w2 x hx)) (L := 40) (by omega)
        · have : (roundsL row).length ≤ 7 := rounds_sub row 6
          exact (Fine.int (by omega) (by omega)).mono (by decide) (by decide)
theorem same_ok (ns : List Int) (d : D) (g g1 g2 : Sg) (fa fb : M D) (h : Fine 40 90000 d) (ha : fa g = .ok d g1) (hb : fb g1 = .ok d g2) : (ifM (notM (asB (callM h_L_same ns (datsM (consM fa (consM fb (pureM []))))))) (seqM (retM (pureM (.bool false))) nextM) nextM) g = .ok .next g2 := by
  refine ev_ifF (g1 := g2) (ev_not (b := true) (ev_asB ?_)) rfl
  exact ev_call (g1 := g2) (ss := [.dat d, .dat d]) (ev_dats (ds := [d, d]) (ev_cons ha (ev_cons hb rfl))) (same_fine ns d g2.ct h)
theorem rngI5 : rngI 0 5 = [0, 1, 2, 3, 4] := by decide
theorem q5_ok (ns : List Int) (l : LS) (row : List Int) (ct : Int) (hr : rowOk row) : q5 ns (Lg (L1 l row) ct) = .ok .next (Lg (L1 l row) ct) := by
  have hf : Fine 4 70000 (.list ((rngI 0 5).map fun k => tellD (rowR row k))) := (Fine.list (k := 3) (n := 2 * (6000 + 1)) (L := 5) (fun x hx => by
    obtain ⟨k, hk, rfl⟩ := List.mem_map.mp hx
    exact f_tell (fine_row hr k) (by decide)) (by rw [List.length_map, rngI5]; decide)).mono (by decide) (by decide)
  let G := Lg (L1 l row) ct
  refine same_ok ns _ G G G _ _ (hf.mono (by decide) (by decide)) (ev_lst ?_) (ev_lst ?_)
  · refine lcTm (g1 := G) PyData.int (rngI 0 5) (fun k => tellD (rowR row k)) (ev_srcA (ds := [.int 5]) rfl (rng1_i 5 (by decide) (by decide))) (fun k hk => ?_) (size_le _ (by rw [rngI5]; decide))
    let G2 := Lh (L1 l row) (.dat (.int k)) .no ct
    rw [rngI5] at hk
    exact ⟨G2, G2, rfl, ev_call (g1 := G2) (ss := [.dat (.int k), .dat (eT row), .dat (.int 0)]) rfl (row_told ns row ct (.int 0) hr.1 k hk), rfl⟩
  · rw [rngI5]
    have e0 : (tupM (consM (pureM (.str "told")) (consM (opN tupleOfD (consM (getM 5) (pureM []))) (pureM [])))) G = .ok (tellD (rowR row 0)) G := ev_tup (ds := [.str "told", .tuple ((stepsL row).map eN)]) (ev_cons (g1 := G) rfl (ev_cons (g1 := G) rfl rfl)) sz2
    have e1 : (tupM (consM (pureM (.str "told")) (consM (opN sumD (consM (getM 5) (pureM []))) (pureM [])))) G = .ok (tellD (rowR row 1)) G := ev_tup (ds := [.str "told", eN (stepsL row).sum]) (ev_cons (g1 := G) rfl (ev_cons (g1 := G) (ev_opN (g1 := G) (xs := [.list ((stepsL row).map eN)]) rfl (sum_steps _)) rfl)) sz2
    have e2 : (tupM (consM (pureM (.str "told")) (consM (opN maxD (consM (getM 5) (pureM []))) (pureM [])))) G = .ok (tellD (rowR row 2)) G := ev_tup (ds := [.str "told", .int (mxL (stepsL row))]) (ev_cons (g1 := G) rfl (ev_cons (g1 := G) (ev_opN (g1 := G) (xs := [.list ((stepsL row).map eN)]) rfl (max_steps _ (steps_ne hr.1))) rfl)) sz2
    have e3 : (tupM (consM (pureM (.str "told")) (consM (getM 6) (pureM [])))) G = .ok (tellD (rowR row 3)) G := ev_tup (ds := [.str "told", .list (eTs (roundsL row))]) (ev_cons (g1 := G) rfl (ev_cons (g1 := G) rfl rfl)) sz2
    have el : lenD [.list (eTs (roundsL row))] = some (.int ((roundsL row).length : Nat)) := by
      show some (PyData.int ((eTs (roundsL row)).length : Nat)) = _
      unfold eTs
      rw [List.length_map]
    have e4 : (tupM (consM (pureM (.str "told")) (consM (op2 subD (opN lenD (consM (getM 6) (pureM []))) (pureM (.int 1))) (pureM [])))) G = .ok (tellD (rowR row 4)) G := ev_tup (ds := [.str "told", .int (((roundsL row).length : Nat) - 1)]) (ev_cons (g1 := G) rfl (ev_cons (g1 := G) (ev_op2 (g1 := G) (g2 := G) (ev_opN (g1 := G) (xs := [.list (eTs (roundsL row))]) rfl el) rfl rfl) rfl)) sz2
    exact ev_guard (ev_cons e0 (ev_cons e1 (ev_cons e2 (ev_cons e3 (ev_cons e4 rfl))))) (size_le 5 (by decide))
end K50

set_option Elab.async false
set_option linter.all false
set_option maxRecDepth 100000
set_option maxHeartbeats 4000000
/-! K50r: bounds; where a number stops. -/
namespace K50
open PySem PySem.Spec L2 DL
theorem len_eT (w : List Int) : lenD [eT w] = some (.int (w.length : Nat)) := len_T w
theorem ix_rounds (row : List Int) (k : Nat) (w : List Int) (h : (roundsL row)[k]? = some w) : L2.atI (eTs (roundsL row)) (k : Int) = some (eT w) := by
  refine L2.atI_nat ?_
  unfold eTs
  rw [List.getElem?_map, h]
  rfl
theorem mul2 (n : Nat) : mulXD (.int 2) (.int (n : Nat)) = some (.int (2 * (n : Int))) := mulS (.inl (by decide))
theorem q6_ok (ns : List Int) (l : LS) (row : List Int) (ct : Int) (hr : rowOk row) : q6 ns (Lg (L1 l row) ct) = .ok .next (Lg (L1 l row) ct) := by
  let G := Lg (L1 l row) ct
  have hl := hr.1.2.1
  have h1 : 1 ≤ row.length := List.length_pos_iff.mpr hr.1.1
  have hR : (roundsL row).length ≤ 7 := rounds_sub row 6
  have el : lenD [.list (eTs (roundsL row))] = some (.int ((roundsL row).length : Nat)) := by
    show some (PyData.int ((eTs (roundsL row)).length : Nat)) = _
    unfold eTs
    rw [List.length_map]
  refine ev_ifF (g1 := G) (ev_orF (g1 := G) ?_ (ev_not (b := true) ?_)) rfl
  · refine ev_asB (ev_op2 (g1 := G) (g2 := G) (x := .int 0) (y := .int 0) (ev_opN (g1 := G) (xs := [.list []]) (ev_cons (g1 := G) (ev_lst ?_) rfl) rfl) rfl rfl)
    have hh := lcT (src := srcA rng1 (consM (op2 subD (opN lenD (consM (getM 6) (pureM []))) (pureM (.int 1))) (pureM []))) (k := putM 16) (c := asB (op2 gtD (op2 mulXD (pureM (.int 2)) (opN lenD (consM (op2 ixD (getM 6) (op2 addD (getM 16) (pureM (.int 1)))) (pureM [])))) (opN lenD (consM (op2 ixD (getM 6) (getM 16)) (pureM []))))) (e := getM 16) (vs := [16]) (g := G) (g1 := G) PyData.int (rngI 0 (((roundsL row).length : Nat) - 1)) (fun _ => false) PyData.int (ev_srcA (ds := [.int (((roundsL row).length : Nat) - 1)]) (ev_cons (g1 := G) (ev_op2 (g1 := G) (g2 := G) (ev_opN (g1 := G) (xs := [.list (eTs (roundsL row))]) rfl el) rfl rfl) rfl) (rng1_i _ (by omega) (by omega))) (fun x hx => by
      have hx := mem_rngI.mp hx
      obtain ⟨k, rfl⟩ : ∃ k : Nat, x = (k : Nat) := ⟨x.toNat, by omega⟩
      have hk : k + 1 < (roundsL row).length := by omega
      obtain ⟨a, ha⟩ : ∃ a, (roundsL row)[k]? = some a := ⟨_, List.getElem?_eq_getElem (by omega)⟩
      obtain ⟨b, hb⟩ : ∃ b, (roundsL row)[k + 1]? = some b := ⟨_, List.getElem?_eq_getElem hk⟩
      have hh := rounds_half 6 row k a b ha hb
      have ea := ix_rounds row k a ha
      have eb := ix_rounds row (k + 1) b hb
      let G2 := Lh (L1 l row) (.dat (.int (k : Nat))) .no ct
      refine ⟨G2, G2, rfl, ?_, fun _ => rfl, fun z => nomatch z⟩
      refine ev_asB (ev_op2 (g1 := G2) (g2 := G2) (x := .int (2 * (b.length : Int))) (y := .int (a.length : Nat)) (ev_op2 (g1 := G2) (g2 := G2) (x := .int 2) (y := .int (b.length : Nat)) rfl (ev_opN (g1 := G2) (xs := [eT b]) (ev_cons (g1 := G2) (ev_op2 (g1 := G2) (g2 := G2) (x := .list (eTs (roundsL row))) (y := .int ((k + 1 : Nat) : Int)) rfl (ev_op2 (g1 := G2) (g2 := G2) rfl rfl rfl) eb) rfl) (len_eT b)) (mul2 b.length)) (ev_opN (g1 := G2) (xs := [eT a]) (ev_cons (g1 := G2) (ev_op2 (g1 := G2) (g2 := G2) (x := .list (eTs (roundsL row))) (y := .int (k : Nat)) rfl rfl ea) rfl) (len_eT a)) ?_)
      show some (PyData.bool (decide ((a.length : Int) < 2 * (b.length : Int)))) = _
      rw [decide_eq_false (by omega)]) (size_le _ (by rw [len_rngI]; omega))
    have e0 : ((rngI 0 (((roundsL row).length : Nat) - 1)).filter fun _ => false) = [] := List.filter_eq_nil_iff.mpr (by simp)
    rw [hh, e0]
    rfl
  · have b1 := steps_lower hr.1.2.2.1 hr.1.1
    have b2 := steps_upper hr.1.2.2.1
    have em := mul_nextN row.length hl
    have ef := fdiv2 (row.length * (row.length + 1))
    have e5 := sum_steps (stepsL row)
    have c1 : (2 * (row.length : Int) - 1) ≤ ((stepsL row).sum : Nat) := by omega
    have c2 : (((stepsL row).sum : Nat) : Int) ≤ ((row.length * (row.length + 1) / 2 : Nat) : Int) := by omega
    refine ev_asB ?_
    refine ev_bind (a := .int (2 * (row.length : Int) - 1)) (g1 := G) (ev_op2 (g1 := G) (g2 := G) (ev_op2 (g1 := G) (g2 := G) (x := .int 2) (y := .int (row.length : Nat)) rfl rfl (mul2 row.length)) rfl rfl) (ev_bind (a := eN (stepsL row).sum) (g1 := G) (ev_opN (g1 := G) (xs := [.list ((stepsL row).map eN)]) rfl e5) (ev_bind (a := .bool true) (g1 := G) (ev_liftO ?_) (ev_bind (a := eN (row.length * (row.length + 1) / 2)) (g1 := G) (ev_op2 (g1 := G) (g2 := G) (x := .int ((row.length * (row.length + 1) : Nat) : Int)) (y := .int 2) (ev_op2 (g1 := G) (g2 := G) (x := .int (row.length : Nat)) (y := .int ((row.length : Int) + 1)) rfl (ev_op2 (g1 := G) (g2 := G) rfl rfl rfl) em) rfl ef) (ev_liftO ?_))))
    · show some (PyData.bool (decide _)) = _
      rw [decide_eq_true c1]
    · show some (PyData.bool (decide _)) = _
      rw [decide_eq_true c2]
theorem q7_ok (ns : List Int) (l : LS) (row : List Int) (ct : Int) (h0 : ns ≠ []) (h1 : ns.length ≤ 4000) (hc0 : 0 ≤ ct) (hc : ct ≤ 1000) (hr : rowOk row) : ∃ a : Nat, a < row.length ∧ q7 ns (Lg (L1 l row) ct) = .ok .next (Lg { L1 l row with s7 := .dat (eN a) } (ct + 1)) := by
  have hl : 1 ≤ row.length := List.length_pos_iff.mpr hr.1.1
  obtain ⟨v, v0, v1, hv⟩ := next_ok ns (row.length : Nat) ct h0 h1 hc0 hc (by omega)
  obtain ⟨a, rfl⟩ : ∃ a : Nat, v = (a : Nat) := ⟨v.toNat, by omega⟩
  exact ⟨a, by omega, ev_asg (g1 := Lg (L1 l row) (ct + 1)) (d := eN a) (ev_call (g1 := Lg (L1 l row) ct) (ss := [.sta, .dat (.int (row.length : Nat))]) rfl hv) rfl⟩
def refD : D := .str "refused"
theorem f_ref : Fine 0 20 refD := fine_of (by decide +kernel)
theorem rep_refs (n : Nat) : (List.replicate n [refD]).flatten = List.replicate n refD := by
  induction n with
  | zero => rfl
  | succ n ih => rw [List.replicate_succ, List.flatten_cons, ih]; rfl
theorem rep_str (s : D) (n : Nat) : (List.replicate n [s]).flatten = List.replicate n s := by
  induction n with
  | zero => rfl
  | succ n ih => rw [List.replicate_succ, List.flatten_cons, ih]; rfl
theorem mul_if (xs : List D) (k : Int) (h : -(2 ^ 63) ≤ k ∧ k < 2 ^ 63 ∧ xs.length * k.toNat ≤ sizeLine) : mulXD (.list xs) (.int k) = some (.list (List.replicate k.toNat xs).flatten) := if_pos h
theorem mul_str (s : D) (k : Int) (n : Nat) (hk : k = (n : Nat)) (h : n ≤ 100) : mulXD (.list [s]) (.int k) = some (.list (List.replicate n s)) := by
  have h3 : (0 : Int) ≤ k := by omega
  have h4 : k ≤ 100 := by omega
  have hn : k.toNat = n := by omega
  rw [mul_if [s] k ⟨Int.le_trans (by decide) h3, Int.lt_of_le_of_lt h4 (by decide), size_le _ (by simp; omega)⟩, hn, rep_str]
theorem fine_refs (s : D) (h : Fine 0 20 s) (n : Nat) (hn : n ≤ 100) : Fine 1 2100 (.list (List.replicate n s)) := (Fine.list (k := 0) (n := 20) (L := 100) (fun x hx => by
  rw [List.eq_of_mem_replicate hx]
  exact h) (by simp; exact hn)).mono (by decide) (by decide)
theorem q8_ok (ns : List Int) (l : LS) (row : List Int) (a : Nat) (ct : Int) (hr : rowOk row) (ha : a < row.length) : q8 ns (Lg { L1 l row with s7 := .dat (eN a) } ct) = .ok .next (Lg { L1 l row with s7 := .dat (eN a) } ct) := by
  let G := Lg { L1 l row with s7 := .dat (eN a) } ct
  have hl := hr.1.2.1
  have et := toldC ns 12 ct (eT row) (eN a) _ _ (by decide) (L2.atI_nat (j := 2) rfl) (stops_tells ns row a ct hr.1 ha)
  have ei := ix_steps row a ha
  have em := modNN a (farL row a) row.length (by omega)
  have hz : (a + farL row a) % row.length < row.length := Nat.mod_lt _ (by omega)
  have fz : Fine 1 42 (tellD (eN ((a + farL row a) % row.length))) := f_tell (fineN (by omega)) (Nat.le_refl _)
  have hm := mul_str refD 2 2 rfl (by decide)
  have fr := fine_refs refD f_ref 2 (by decide)
  refine ev_ifF (g1 := G) (ev_orF (g1 := G) ?_ ?_) rfl
  · refine lg_ne (g1 := G) (d := tellD (eN ((a + farL row a) % row.length))) (ev_call (g1 := G) (ss := [.dat (.int 12), .dat (eT row), .dat (eN a)]) rfl et) (ev_tup (ds := [.str "told", eN ((a + farL row a) % row.length)]) (ev_cons (g1 := G) rfl (ev_cons (g1 := G) ?_ rfl)) sz2) (fine_shaped fz (by decide))
    refine ev_op2 (g1 := G) (g2 := G) (x := .int ((a : Int) + (farL row a : Int))) (y := .int (row.length : Nat)) (ev_op2 (g1 := G) (g2 := G) (x := eN a) (y := eN (farL row a)) rfl (ev_op2 (g1 := G) (g2 := G) (x := .list ((stepsL row).map eN)) (y := eN a) rfl rfl ei) rfl) rfl em
  · refine lg_ne (g1 := G) (d := .list (List.replicate 2 refD)) (ev_lst ?_) (ev_op2 (g1 := G) (g2 := G) (x := .list [refD]) (y := .int 2) (ev_lst (ev_guard (ds := [refD]) rfl sz1)) rfl hm) (fine_shaped fr (by decide))
    have h2 := lcTm (src := srcM (lstM (guardL (consM (op1 negD (pureM (.int 1))) (consM (getM 4) (pureM [])))))) (k := putM 19) (e := callM h_L_told ns (datsM (consM (pureM (.int 12)) (consM (getM 3) (consM (getM 19) (pureM [])))))) (vs := [19]) (g := G) (g1 := G) PyData.int [-1, (row.length : Nat)] (fun _ => refD) (ev_bind (a := .list [.int (-1), .int (row.length : Nat)]) (g1 := G) (ev_lst (ev_guard (ds := [.int (-1), .int (row.length : Nat)]) rfl sz2)) rfl) (fun x hx => by
      let G2 := Lh { L1 l row with s7 := .dat (eN a) } .no (.dat (.int x)) ct
      refine ⟨G2, G2, rfl, ev_call (g1 := G2) (ss := [.dat (.int 12), .dat (eT row), .dat (.int x)]) rfl ?_, rfl⟩
      have hx : x = -1 ∨ x = (row.length : Nat) := by simpa using hx
      exact toldCX ns 12 ct (eT row) (.int x) _ "NotAllowed" "refused" (by decide) (L2.atI_nat (j := 2) rfl) (stops_refused ns row x ct hr.1 (by omega)) nm_refused) sz2
    exact h2
end K50

set_option Elab.async false
set_option linter.all false
set_option maxRecDepth 100000
set_option maxHeartbeats 4000000
/-! K50s: all rings of a size. -/
namespace K50
open PySem PySem.Spec L2 DL
theorem sizes_of {v : Int} (h1 : 1 ≤ v) (h2 : v ≤ 7) : v ∈ sizes := by
  have : v = 1 ∨ v = 2 ∨ v = 3 ∨ v = 4 ∨ v = 5 ∨ v = 6 ∨ v = 7 := by omega
  simp [sizes]
  omega
theorem q9_ok (ns : List Int) (l : LS) (ct : Int) (h0 : ns ≠ []) (h1 : ns.length ≤ 4000) (hc0 : 0 ≤ ct) (hc : ct ≤ 990) : ∃ n : Nat, ((n : Nat) : Int) ∈ sizes ∧ q9 ns (Lg l ct) = .ok .next (Lg { l with s8 := .dat (eN n) } (ct + 2)) := by
  obtain ⟨v, v0, v1, hv⟩ := next_ok ns 6 ct h0 h1 hc0 (by omega) (by decide)
  obtain ⟨b, hb⟩ : ∃ b, b = (v == 0) := ⟨_, rfl⟩
  obtain ⟨q, hq, q0, q1⟩ : ∃ q : Int, L2.atI [PyData.int 6, .int 7] (if b = true then 1 else 0) = some (.int q) ∧ 0 < q ∧ q ≤ 7 := by
    cases b
    · exact ⟨6, L2.atI_nat (j := 0) rfl, by decide, by decide⟩
    · exact ⟨7, L2.atI_nat (j := 1) rfl, by decide, by decide⟩
  obtain ⟨u, u0, u1, hu⟩ := next_ok ns q (ct + 1) h0 h1 (by omega) (by omega) q0
  obtain ⟨n, hn⟩ : ∃ n : Nat, 1 + u = (n : Nat) := ⟨(1 + u).toNat, by omega⟩
  refine ⟨n, sizes_of (by omega) (by omega), ?_⟩
  have ec : ct + 2 = ct + 1 + 1 := by omega
  rw [ec]
  refine ev_asg (g1 := Lg l (ct + 1 + 1)) (d := eN n) (ev_op2 (g1 := Lg l ct) (g2 := Lg l (ct + 1 + 1)) (x := .int 1) (y := .int u) rfl ?_ ?_) rfl
  · refine ev_call (g1 := Lg l (ct + 1)) (ss := [.sta, .dat (.int q)]) ?_ hu
    refine ev_bind (a := [.int q]) (g1 := Lg l (ct + 1)) (ev_cons (g1 := Lg l (ct + 1)) (ev_op2 (g1 := Lg l ct) (g2 := Lg l (ct + 1)) (x := .list [.int 6, .int 7]) (y := .int (if b = true then 1 else 0)) (ev_lst (ev_guard (ds := [.int 6, .int 7]) rfl sz2)) (ev_opN (g1 := Lg l (ct + 1)) (xs := [.bool b]) (ev_cons (g1 := Lg l (ct + 1)) (ev_op2 (g1 := Lg l (ct + 1)) (g2 := Lg l (ct + 1)) (x := .int v) (y := .int 0) (ev_call (g1 := Lg l ct) (ss := [.sta, .dat (.int 6)]) rfl hv) rfl (by rw [hb]; rfl)) rfl) rfl) hq) rfl) rfl
  · show some (PyData.int (1 + u)) = _
    rw [hn]
def dueL (m : Int) : List D := [.int (m * (m + 1) / 2), .int (2 * m - 1), eP (lowP (cntsL m).sum ((cntsL m).length : Nat)), spreadD m]
def L2' (l : LS) (m : Int) : LS := { l with s9 := .dat (.list ((cntsL m).map PyData.int)), s10 := .dat (spreadD m), s11 := .dat (.list (dueL m)) }
theorem sum_law (ns : List Int) (w : List Int) (ct : Int) (g : Sg) (i : Nat) (hg : getM i g = .ok (eT w) g) (hc : g.ct = ct) (h1 : 1 ≤ w.length) (hl : w.length ≤ 50) : (opN sumD (consM (callM h_L_steps ns (datsM (consM (getM i) (pureM [])))) (pureM []))) g = .ok (.int (sumI w)) g := by
  have ew := L_steps_tells ns w g.ct h1 hl
  have e1 : (callM h_L_steps ns (datsM (consM (getM i) (pureM [])))) g = .ok (.list ((stepsL w).map eN)) g := ev_call (g1 := g) (ss := [.dat (eT w)]) (ev_dats (ds := [eT w]) (ev_cons hg rfl)) ew
  exact ev_opN (g1 := g) (xs := [.list ((stepsL w).map eN)]) (ev_cons (g1 := g) e1 rfl) (sum_steps (stepsL w))
theorem q10_ok (ns : List Int) (l : LS) (n : Nat) (ct : Int) (hm : ((n : Nat) : Int) ∈ sizes) : q10 ns (Lg { l with s8 := .dat (eN n) } ct) = .ok .next (Lg { l with s8 := .dat (eN n), s9 := .dat (.list ((cntsL n).map PyData.int)) } ct) := by
  let G := Lg { l with s8 := .dat (eN n) } ct
  have hb := sz_bounds hm
  obtain ⟨f1, f2⟩ := ordersL_ok hm
  have ea := L_all_tells ns n ct hm
  have e1 : (callM h_L_all ns (datsM (consM (getM 8) (pureM [])))) G = .ok (.list ((ordersL n).map eT)) G := ev_call (g1 := G) (ss := [.dat (eN n)]) rfl ea
  refine ev_asg (g1 := G) (d := .list ((cntsL n).map PyData.int)) (ev_lst ?_) rfl
  have hh := lcTm (src := srcM (callM h_L_all ns (datsM (consM (getM 8) (pureM []))))) (k := putM 19) (e := opN sumD (consM (callM h_L_steps ns (datsM (consM (getM 19) (pureM [])))) (pureM []))) (vs := [19]) (g := G) (g1 := G) eT (ordersL n) (fun w => .int (sumI w)) (ev_bind e1 rfl) (fun w hw => by
    let G2 := Lh { l with s8 := .dat (eN n) } .no (.dat (eT w)) ct
    have := f2 w hw
    exact ⟨G2, G2, rfl, sum_law ns w ct G2 19 rfl rfl (by omega) (by omega), rfl⟩) (size_le _ (by omega))
  rw [hh]
  unfold cntsL
  rw [List.map_map]
  rfl
theorem sortSet_L (xs : List Int) (h : xs.length ≤ 4000) (h2 : (once xs).length < 64) : sortSetD (.list (xs.map PyData.int)) = some (.list ((isort (once xs)).map PyData.int)) := by
  show ((intsD (xs.map PyData.int)).bind fun ns => if ns.length ≤ 4000 ∧ (once ns).length < 64 then some (PyData.list ((isort (once ns)).map PyData.int)) else none) = _
  rw [ints_map]
  exact if_pos ⟨h, h2⟩
theorem ev_cnt {f k : M D} {xs : List Int} {c : Int} {g g1 g2 : Sg} (h1 : f g = .ok (.list (xs.map PyData.int)) g1) (h2 : k g1 = .ok (.int c) g2) : cntM f k g = .ok (eN (xs.count c)) g2 := by
  refine ev_bind h1 (ev_bind (a := xs) (g1 := g1) (ev_liftO ?_) (ev_bind h2 rfl))
  exact ints_map xs
theorem q11_ok (ns : List Int) (l : LS) (n : Nat) (ct : Int) (hm : ((n : Nat) : Int) ∈ sizes) : q11 ns (Lg { l with s8 := .dat (eN n), s9 := .dat (.list ((cntsL n).map PyData.int)) } ct) = .ok .next (Lg { l with s8 := .dat (eN n), s9 := .dat (.list ((cntsL n).map PyData.int)), s10 := .dat (spreadD n) } ct) := by
  let l2 : LS := { l with s8 := .dat (eN n), s9 := .dat (.list ((cntsL n).map PyData.int)) }
  let G := Lg l2 ct
  have hcl := cnts_len hm
  have hf := once_few hm
  have es := sortSet_L (cntsL n) (by omega) hf
  refine ev_asg (g1 := G) (d := spreadD n) (ev_opN (g1 := G) (xs := [.list ((isort (once (cntsL n))).map fun c => PyData.tuple [.int c, eN ((cntsL n).count c)])]) (ev_cons (g1 := G) (ev_lst ?_) rfl) rfl) rfl
  refine lcTm (g1 := G) PyData.int (isort (once (cntsL n))) (fun c => PyData.tuple [.int c, eN ((cntsL n).count c)]) (ev_bind (a := .list ((isort (once (cntsL n))).map PyData.int)) (g1 := G) (ev_op1 (g1 := G) (x := .list ((cntsL n).map PyData.int)) rfl es) rfl) (fun c hc => ?_) (size_le _ (by rw [(isort_perm _).length_eq]; omega))
  let G2 := Lh l2 .no (.dat (.int c)) ct
  exact ⟨G2, G2, rfl, ev_tup (ds := [.int c, eN ((cntsL n).count c)]) (ev_cons (g1 := G2) rfl (ev_cons (g1 := G2) (ev_cnt (g1 := G2) (g2 := G2) rfl rfl) rfl)) sz2, rfl⟩
theorem size_facts {m : Int} (hm : m ∈ sizes) : lowOk (cntsL m).sum ((cntsL m).length : Nat) = true ∧ lowOk ((meanF m).1 * m) (meanF m).2 = true ∧ lowP ((meanF m).1 * m) (meanF m).2 = lowP (cntsL m).sum ((cntsL m).length : Nat) ∧ finP (lowP (cntsL m).sum ((cntsL m).length : Nat)) = true ∧ maxL (cntsL m) = some (m * (m + 1) / 2) ∧ minL (cntsL m) = some (2 * m - 1) := by
  have h := size_ok m hm
  unfold sizeB at h
  simp only [Bool.and_eq_true, beq_iff_eq] at h
  obtain ⟨⟨⟨⟨⟨h1, h2⟩, h3⟩, h4⟩, h5⟩, h6⟩ := h
  exact ⟨h1, h2, h3, h4, h5, h6⟩
theorem max_L (xs : List Int) (v : Int) (h : maxL xs = some v) : maxD [.list (xs.map PyData.int)] = some (.int v) := by
  show (intsD (xs.map PyData.int)).bind (fun ns => (maxL ns).map fun m => PyData.int m) = _
  rw [ints_map]
  show (maxL xs).map (fun m => PyData.int m) = _
  rw [h]
  rfl
theorem min_L (xs : List Int) (v : Int) (h : minL xs = some v) : minD [.list (xs.map PyData.int)] = some (.int v) := by
  show (intsD (xs.map PyData.int)).bind (fun ns => (minL ns).map fun m => PyData.int m) = _
  rw [ints_map]
  show (minL xs).map (fun m => PyData.int m) = _
  rw [h]
  rfl
theorem sum_L (xs : List Int) : sumD [.list (xs.map PyData.int)] = some (.int xs.sum) := by
  show (intsD (xs.map PyData.int)).map (fun ns => PyData.int ns.sum) = _
  rw [ints_map]
  rfl
theorem len_LI (xs : List Int) : lenD [.list (xs.map PyData.int)] = some (.int (xs.length : Nat)) := by
  show some (PyData.int ((xs.map PyData.int).length : Nat)) = _
  rw [List.length_map]
theorem q12_ok (ns : List Int) (l : LS) (n : Nat) (ct : Int) (hm : ((n : Nat) : Int) ∈ sizes) : q12 ns (Lg { l with s8 := .dat (eN n), s9 := .dat (.list ((cntsL n).map PyData.int)), s10 := .dat (spreadD n) } ct) = .ok .next (Lg (L2' { l with s8 := .dat (eN n) } n) ct) := by
  let G := Lg { l with s8 := .dat (eN n), s9 := .dat (.list ((cntsL n).map PyData.int)), s10 := .dat (spreadD n) } ct
  obtain ⟨h1, h2, h3, h4, h5, h6⟩ := size_facts hm
  have e1 := max_L _ _ h5
  have e2 := min_L _ _ h6
  have e3 := L_terms_tells ns _ _ ct h1
  have e4 := sum_L (cntsL n)
  have e5 := len_LI (cntsL n)
  refine ev_asg (g1 := G) (d := .list (dueL n)) (ev_lst (ev_guard (ds := dueL n) (ev_cons (g1 := G) (ev_opN (g1 := G) (xs := [.list ((cntsL n).map PyData.int)]) rfl e1) (ev_cons (g1 := G) (ev_opN (g1 := G) (xs := [.list ((cntsL n).map PyData.int)]) rfl e2) (ev_cons (g1 := G) (ev_call (g1 := G) (ss := [.dat (.int (cntsL n).sum), .dat (.int ((cntsL n).length : Nat))]) (ev_dats (ds := [.int (cntsL n).sum, .int ((cntsL n).length : Nat)]) (ev_cons (g1 := G) (ev_opN (g1 := G) (xs := [.list ((cntsL n).map PyData.int)]) rfl e4) (ev_cons (g1 := G) (ev_opN (g1 := G) (xs := [.list ((cntsL n).map PyData.int)]) rfl e5) rfl))) e3) (ev_cons (g1 := G) rfl rfl)))) (size_le 4 (by decide)))) rfl
theorem count_le {xs : List Int} {c : Int} : xs.count c ≤ xs.length := List.count_le_length
theorem fine_spread {m : Int} (hm : m ∈ sizes) : Fine 2 6000 (spreadD m) := by
  have hf := once_few hm
  have hcl := cnts_len hm
  have ht := tri_le m hm
  have hb := sz_bounds hm
  refine (Fine.tuple (k := 1) (n := 42) (L := 64) (fun x hx => ?_) (by rw [List.length_map, (isort_perm _).length_eq]; omega)).mono (by decide) (by decide)
  obtain ⟨c, hc, rfl⟩ := List.mem_map.mp hx
  have hcm := (cnt_mem hm c).mp (once_mem.mp ((isort_perm _).mem_iff.mp hc))
  refine Fine.tuple (k := 0) (n := 20) (L := 2) (fun y hy => ?_) (Nat.le_refl _)
  rcases List.mem_cons.mp hy with rfl | hy
  · exact Fine.int (by omega) (by omega)
  · obtain rfl := List.mem_singleton.mp hy
    have := count_le (xs := cntsL m) (c := c)
    exact fineN (by omega)
def sizeR (m : Int) (k : Int) : D := if k = 5 then .int (m * (m + 1) / 2) else if k = 6 then .int (2 * m - 1) else if k = 7 then eP (lowP (cntsL m).sum ((cntsL m).length : Nat)) else spreadD m
theorem size_told (ns : List Int) (n : Nat) (ct : Int) (y : D) (hm : ((n : Nat) : Int) ∈ sizes) : ∀ k ∈ ([5, 6, 7, 8] : List Int), Tells h_L_told ns [.dat (.int k), .dat (eN n), .dat y] ct (tellD (sizeR n k)) ct := by
  intro k hk
  have hb := sz_bounds hm
  obtain ⟨h1, h2, h3, h4, h5, h6⟩ := size_facts hm
  simp only [List.mem_cons, List.not_mem_nil, or_false] at hk
  have e1 : ((n * (n + 1) / 2 : Nat) : Int) = (n : Int) * ((n : Int) + 1) / 2 := by simp
  have e2 : ((2 * n - 1 : Nat) : Int) = 2 * (n : Int) - 1 := by omega
  rcases hk with e | e | e | e <;> subst e
  · have := toldB ns 5 ct (eN n) y _ _ (by decide) (by decide) (L2.atI_nat (j := 0) rfl) (most_tells ns n ct (by omega) (by omega))
    rw [e1] at this
    exact this
  · have := toldB ns 6 ct (eN n) y _ _ (by decide) (by decide) (L2.atI_nat (j := 1) rfl) (fewest_tells ns n ct (by omega) (by omega))
    rw [e2] at this
    exact this
  · have := toldB ns 7 ct (eN n) y _ _ (by decide) (by decide) (L2.atI_nat (j := 2) rfl) (mean_tells ns n ct (by omega) (by omega) h2)
    rw [h3] at this
    exact this
  · exact toldB ns 8 ct (eN n) y _ _ (by decide) (by decide) (L2.atI_nat (j := 3) rfl) (spread_tells ns n ct hm)
theorem fine_size {m : Int} (hm : m ∈ sizes) (k : Int) : Fine 2 6000 (sizeR m k) := by
  have ht := tri_le m hm
  have hb := sz_bounds hm
  unfold sizeR
  split
  · exact (Fine.int (by omega) (by omega)).mono (by decide) (by decide)
  · split
    · exact (Fine.int (by omega) (by omega)).mono (by decide) (by decide)
    · split
      · exact (fine_P (size_facts hm).2.2.2.1).mono (by decide) (by decide)
      · exact fine_spread hm
theorem q13_ok (ns : List Int) (l : LS) (n : Nat) (ct : Int) (hm : ((n : Nat) : Int) ∈ sizes) : q13 ns (Lg (L2' { l with s8 := .dat (eN n) } n) ct) = .ok .next (Lg (L2' { l with s8 := .dat (eN n) } n) ct) := by
  let l2 := L2' { l with s8 := .dat (eN n) } n
  let G := Lg l2 ct
  have hf : Fine 4 60000 (.list (([5, 6, 7, 8] : List Int).map fun k => tellD (sizeR n k))) := (Fine.list (k := 3) (n := 2 * (6000 + 1)) (L := 4) (xs := ([5, 6, 7, 8] : List Int).map fun k => tellD (sizeR n k)) (fun x hx => by
    obtain ⟨k, hk, rfl⟩ := List.mem_map.mp hx
    exact f_tell (fine_size hm k) (by decide)) (Nat.le_refl 4)).mono (by decide) (by decide)
  refine same_ok ns _ G G G _ _ (hf.mono (by decide) (by decide)) (ev_lst ?_) (ev_lst ?_)
  · have e4 : (lstM (guardL (consM (pureM (.int 5)) (consM (pureM (.int 6)) (consM (pureM (.int 7)) (consM (pureM (.int 8)) (pureM []))))))) G = .ok (.list [.int 5, .int 6, .int 7, .int 8]) G := ev_lst (ev_guard (ds := [.int 5, .int 6, .int 7, .int 8]) rfl (size_le 4 (by decide)))
    refine lcTm (g1 := G) PyData.int [5, 6, 7, 8] (fun k => tellD (sizeR n k)) (ev_bind e4 rfl) (fun k hk => ?_) (size_le 4 (by decide))
    let G2 := Lh l2 (.dat (.int k)) .no ct
    exact ⟨G2, G2, rfl, ev_call (g1 := G2) (ss := [.dat (.int k), .dat (eN n), .dat (.int 0)]) rfl (size_told ns n ct (.int 0) hm k hk), rfl⟩
  · have hh := lcTm (src := srcM (getM 11)) (k := putM 19) (e := tupM (consM (pureM (.str "told")) (consM (getM 19) (pureM [])))) (vs := [19]) (g := G) (g1 := G) (sizeR n) [5, 6, 7, 8] (fun k => tellD (sizeR n k)) rfl (fun k hk => by
      let G2 := Lh l2 .no (.dat (sizeR n k)) ct
      exact ⟨G2, G2, rfl, ev_tup (ds := [.str "told", sizeR n k]) (ev_cons (g1 := G2) rfl (ev_cons (g1 := G2) rfl rfl)) sz2, rfl⟩) (size_le 4 (by decide))
    exact hh
end K50

set_option Elab.async false
set_option linter.all false
set_option maxRecDepth 100000
set_option maxHeartbeats 4000000
/-! K50u: the ring that is shown. -/
namespace K50
open PySem PySem.Spec L2 DL
theorem range_sorted (n : Nat) : ((List.range n).map fun k : Nat => (k : Int)).Pairwise (· ≤ ·) := by
  rw [List.pairwise_map]
  exact List.Pairwise.imp (fun h => by omega) List.pairwise_lt_range
theorem built_sorted {n c : Nat} (h : 1 ≤ n) : isort (builtL n c) = (List.range n).map fun k : Nat => (k : Int) := (isort_uniq (built_perm h).symm (range_sorted n)).symm
theorem sortedT_L (xs : List Int) : sortedTD [eT xs] = some (.list ((isort xs).map PyData.int)) := by
  show (intsD (xs.map PyData.int)).map (fun ns => PyData.list ((isort ns).map PyData.int)) = _
  rw [ints_map]
  rfl
theorem built_len {n c : Nat} (h : 1 ≤ n) : (builtL n c).length = n := by
  rw [(built_perm h).length_eq]
  simp
theorem told_ix1 (v : D) : L2.atI [.str "told", v] (1 : Int) = some v := L2.atI_nat (j := 1) rfl
theorem told_ix0 (v : D) : L2.atI [(.str "told" : D), v] (0 : Int) = some (.str "told") := L2.atI_nat (j := 0) rfl
theorem head_ix (n c : Nat) : L2.atI ((builtL n c).map PyData.int) (0 : Int) = some (.int ((n : Int) - 1)) := L2.atI_nat (j := 0) rfl
theorem shown_ok (ns : List Int) (n c i : Nat) (g : Sg) (h1 : 1 ≤ n) (h2 : n ≤ 40) (h3 : 2 * n - 1 ≤ c) (h4 : c ≤ n * (n + 1) / 2) (g13 : getM 13 g = .ok (tellD (eT (builtL n c))) g) (gi : getM i g = .ok (eN n) g) (g12 : getM 12 g = .ok (eN c) g) :
    (orM (asB (op2 neD (opN sortedTD (consM (op2 ixD (getM 13) (pureM (.int 1))) (pureM []))) (lstM (lrgF (getM i))))) (orM (asB (op2 neD (op2 ixD (op2 ixD (getM 13) (pureM (.int 1))) (pureM (.int 0))) (op2 subD (getM i) (pureM (.int 1))))) (asB (op2 neD (opN sumD (consM (callM h_L_steps ns (datsM (consM (op2 ixD (getM 13) (pureM (.int 1))) (pureM [])))) (pureM []))) (getM 12))))) g = .ok false g := by
  have hl := built_len (n := n) (c := c) h1
  have e1 : (op2 ixD (getM 13) (pureM (.int 1))) g = .ok (eT (builtL n c)) g := ev_op2 g13 rfl (told_ix1 _)
  have es := sortedT_L (builtL n c)
  rw [built_sorted h1] at es
  have el := lrg_n (n : Nat) n rfl (by omega)
  have ew := L_steps_tells ns (builtL n c) g.ct (by omega) (by omega)
  have hsum := built_sum h1 h3 h4
  have e2 := sum_steps (stepsL (builtL n c))
  rw [hsum] at e2
  have fl : Fine 1 (40 * 21) (.list (((List.range n).map fun k : Nat => (k : Int)).map PyData.int)) := Fine.list (k := 0) (n := 20) (L := 40) (fun x hx => by
    obtain ⟨y, hy, rfl⟩ := List.mem_map.mp hx
    obtain ⟨k, hk, rfl⟩ := List.mem_map.mp hy
    have := List.mem_range.mp hk
    exact fineN (by omega)) (by simp; omega)
  have e3 : (callM h_L_steps ns (datsM (consM (op2 ixD (getM 13) (pureM (.int 1))) (pureM [])))) g = .ok (.list ((stepsL (builtL n c)).map eN)) g := ev_call (g1 := g) (ss := [.dat (eT (builtL n c))]) (ev_dats (ds := [eT (builtL n c)]) (ev_cons e1 rfl)) ew
  have hc40 : n * (n + 1) ≤ 40 * 41 := Nat.mul_le_mul h2 (by omega)
  refine ev_orF (g1 := g) (lg_ne (g1 := g) (d := .list (((List.range n).map fun k : Nat => (k : Int)).map PyData.int)) (ev_opN (g1 := g) (xs := [eT (builtL n c)]) (ev_cons e1 rfl) es) (ev_lst (ev_bind gi (ev_liftO el))) (fine_shaped fl (by decide))) (ev_orF (g1 := g) ?_ ?_)
  · refine lg_ne (g1 := g) (d := .int ((n : Int) - 1)) (ev_op2 e1 rfl (head_ix n c)) (ev_op2 gi rfl rfl) (fine_shaped (Fine.int (by omega) (by omega)) (by decide))
  · exact lg_ne (g1 := g) (d := eN c) (ev_opN (g1 := g) (xs := [.list ((stepsL (builtL n c)).map eN)]) (ev_cons (g1 := g) e3 rfl) e2) g12 (fine_shaped (fineN (by omega)) (by decide))
/-! the wish -/
def shownD (n c : Nat) : D := if 2 * n - 1 ≤ c ∧ c ≤ n * (n + 1) / 2 then tellD (eT (builtL n c)) else refD
theorem shown_told (ns : List Int) (n c : Nat) (ct : Int) (h1 : 1 ≤ n) (h2 : n ≤ 40) : Tells h_L_told ns [.dat (.int 11), .dat (eN n), .dat (eN c)] ct (shownD n c) ct := by
  unfold shownD
  split
  · rename_i h
    exact toldC ns 11 ct (eN n) (eN c) _ _ (by decide) (L2.atI_nat (j := 1) rfl) (ring_tells ns n c ct h1 h2 h.1 h.2)
  · rename_i h
    exact toldCX ns 11 ct (eN n) (eN c) _ "NotAllowed" "refused" (by decide) (L2.atI_nat (j := 1) rfl) (ring_refused ns n (c : Nat) ct h1 h2 (fun z => h (by omega))) nm_refused
theorem fine_shown (n c : Nat) (h1 : 1 ≤ n) (h2 : n ≤ 40) : Fine 2 2000 (shownD n c) := by
  unfold shownD
  split
  · refine (f_tell (k := 1) (n := 40 * 21) (Fine.word (fun x hx => ?_) (L := 40) (by rw [built_len h1]; exact h2)) (by decide)).mono (by decide) (by decide)
    have hm := (built_perm h1).mem_iff.mp hx
    obtain ⟨k, hk, rfl⟩ := List.mem_map.mp hm
    have := List.mem_range.mp hk
    omega
  · exact f_ref.mono (by decide) (by decide)
theorem eq_ref (n c : Nat) (h1 : 1 ≤ n) (h2 : n ≤ 40) : eqD (shownD n c) refD = some (.bool (!decide (2 * n - 1 ≤ c ∧ c ≤ n * (n + 1) / 2))) := by
  have s1 := fine_shaped (fine_shown n c h1 h2) (by decide)
  have s2 := fine_shaped f_ref (by decide)
  unfold eqD
  rw [if_pos ⟨s1, s2⟩]
  unfold shownD
  split
  · rename_i h
    rw [decide_eq_true h]
    rfl
  · rename_i h
    rw [decide_eq_false h, SeqAt.eqv_refl refD (canLay_shaped s2)]
    rfl
theorem ne_ref (n c : Nat) (h1 : 1 ≤ n) (h2 : n ≤ 40) : neD (shownD n c) refD = some (.bool (decide (2 * n - 1 ≤ c ∧ c ≤ n * (n + 1) / 2))) := by
  have s1 := fine_shaped (fine_shown n c h1 h2) (by decide)
  have s2 := fine_shaped f_ref (by decide)
  unfold neD
  rw [if_pos ⟨s1, s2⟩]
  unfold shownD
  split
  · rename_i h
    rw [decide_eq_true h]
    rfl
  · rename_i h
    rw [decide_eq_false h, SeqAt.eqv_refl refD (canLay_shaped s2)]
    rfl
theorem in_L (neg : Bool) (i : Int) (w : List Int) : inD neg (.int i) (.list (w.map PyData.int)) = some (.bool (neg != w.contains i)) := by
  unfold inD
  rw [if_pos ⟨rfl, shaped_L w⟩]
  show some (PyData.bool (if neg = true then !(anyE (.int i) (w.map PyData.int)) else anyE (.int i) (w.map PyData.int))) = _
  rw [anyE_int]
  cases neg <;> simp
def L3 (l : LS) (n c : Nat) : LS := { l with s12 := .dat (eN c), s13 := .dat (shownD n c) }
abbrev K8 (l : LS) (n : Nat) : LS := L2' { l with s8 := .dat (eN n) } n
theorem q14_ok (ns : List Int) (l : LS) (n : Nat) (ct : Int) (h0 : ns ≠ []) (h1 : ns.length ≤ 4000) (hc0 : 0 ≤ ct) (hc : ct ≤ 990) (hm : ((n : Nat) : Int) ∈ sizes) : ∃ c : Nat, c ≤ 31 ∧ q14 ns (Lg (K8 l n) ct) = .ok .next (Lg { K8 l n with s12 := .dat (eN c) } (ct + 1)) := by
  have ht := tri_le _ hm
  have hb := sz_bounds hm
  have e1 := max_L _ _ (size_facts hm).2.2.2.2.1
  obtain ⟨v, v0, v1, hv⟩ := next_ok ns ((n : Int) * ((n : Int) + 1) / 2 + 3) ct h0 h1 hc0 (by omega) (by omega)
  obtain ⟨c, rfl⟩ : ∃ c : Nat, v = (c : Nat) := ⟨v.toNat, by omega⟩
  let G := Lg (K8 l n) ct
  refine ⟨c, by omega, ev_asg (g1 := Lg (K8 l n) (ct + 1)) (d := eN c) (ev_call (g1 := G) (ss := [.sta, .dat (.int ((n : Int) * ((n : Int) + 1) / 2 + 3))]) ?_ hv) rfl⟩
  exact ev_bind (a := [.int ((n : Int) * ((n : Int) + 1) / 2 + 3)]) (g1 := G) (ev_cons (g1 := G) (ev_op2 (g1 := G) (g2 := G) (ev_opN (g1 := G) (xs := [.list ((cntsL n).map PyData.int)]) rfl e1) rfl rfl) rfl) rfl
theorem q15_ok (ns : List Int) (l : LS) (n c : Nat) (ct : Int) (hm : ((n : Nat) : Int) ∈ sizes) : q15 ns (Lg { K8 l n with s12 := .dat (eN c) } ct) = .ok .next (Lg { K8 l n with s12 := .dat (eN c) } ct) := by
  let G := Lg { K8 l n with s12 := .dat (eN c) } ct
  have hcl := cnts_len hm
  have hcc := count_le (xs := cntsL n) (c := (c : Int))
  have et := toldC ns 10 ct (eN n) (eN c) _ _ (by decide) (L2.atI_nat (j := 0) rfl) (orders_with_tells ns n c ct hm)
  have fz : Fine 1 42 (tellD (eN ((cntsL n).count (c : Int)))) := f_tell (fineN (by omega)) (Nat.le_refl _)
  have e1 : (callM h_L_told ns (datsM (consM (pureM (.int 10)) (consM (getM 8) (consM (getM 12) (pureM [])))))) G = .ok (tellD (eN ((cntsL n).count (c : Int)))) G := ev_call (g1 := G) (ss := [.dat (.int 10), .dat (eN n), .dat (eN c)]) rfl et
  have e2 : (cntM (getM 9) (getM 12)) G = .ok (eN ((cntsL n).count (c : Int))) G := ev_cnt (g1 := G) (g2 := G) rfl rfl
  exact ev_ifF (g1 := G) (lg_ne (g1 := G) e1 (ev_tup (ds := [.str "told", eN ((cntsL n).count (c : Int))]) (ev_cons (g1 := G) rfl (ev_cons (g1 := G) e2 rfl)) sz2) (fine_shaped fz (by decide))) rfl
theorem q16_ok (ns : List Int) (l : LS) (n c : Nat) (ct : Int) (h1 : 1 ≤ n) (h2 : n ≤ 40) : q16 ns (Lg { K8 l n with s12 := .dat (eN c) } ct) = .ok .next (Lg (L3 (K8 l n) n c) ct) := by
  let G := Lg { K8 l n with s12 := .dat (eN c) } ct
  have e1 : (callM h_L_told ns (datsM (consM (pureM (.int 11)) (consM (getM 8) (consM (getM 12) (pureM [])))))) G = .ok (shownD n c) G := ev_call (g1 := G) (ss := [.dat (.int 11), .dat (eN n), .dat (eN c)]) rfl (shown_told ns n c ct h1 h2)
  exact ev_asg (g1 := G) e1 rfl
theorem ne_bool (a b : Bool) : neD (.bool a) (.bool b) = some (.bool (a != b)) := by cases a <;> cases b <;> rfl
theorem q17_ok (ns : List Int) (l : LS) (n c : Nat) (ct : Int) (hm : ((n : Nat) : Int) ∈ sizes) : q17 ns (Lg (L3 (K8 l n) n c) ct) = .ok .next (Lg (L3 (K8 l n) n c) ct) := by
  let G := Lg (L3 (K8 l n) n c) ct
  have hb := sz_bounds hm
  have e1 := eq_ref n c (by omega) (by omega)
  have e2 := in_L true (c : Int) (cntsL n)
  have hcm := cnt_mem hm (c : Int)
  have hmul : ((n * (n + 1) / 2 : Nat) : Int) = (n : Int) * ((n : Int) + 1) / 2 := by simp
  rw [← hmul] at hcm
  have eb : (cntsL n).contains (c : Int) = decide (2 * n - 1 ≤ c ∧ c ≤ n * (n + 1) / 2) := by
    by_cases h : 2 * n - 1 ≤ c ∧ c ≤ n * (n + 1) / 2
    · rw [decide_eq_true h]
      exact List.contains_iff_mem.mpr (hcm.mpr ⟨by omega, by omega⟩)
    · rw [decide_eq_false h]
      cases hx : (cntsL n).contains (c : Int) with
      | false => rfl
      | true =>
        have := hcm.mp (List.contains_iff_mem.mp hx)
        exact (h ⟨by omega, by omega⟩).elim
  rw [eb] at e2
  generalize decide (2 * n - 1 ≤ c ∧ c ≤ n * (n + 1) / 2) = b at e1 e2
  have hx : (op2 neD (op2 eqD (getM 13) (pureM (.str "refused"))) (op2 (inD true) (getM 12) (getM 9))) G = .ok (.bool false) G := by
    refine ev_op2 (g1 := G) (g2 := G) (ev_op2 (g1 := G) (g2 := G) (x := shownD n c) (y := refD) rfl rfl e1) (ev_op2 (g1 := G) (g2 := G) (x := .int (c : Nat)) (y := .list ((cntsL n).map PyData.int)) rfl rfl e2) ?_
    rw [ne_bool]
    cases b <;> rfl
  exact ev_ifF (g1 := G) (ev_asB hx) rfl
theorem q18_ok (ns : List Int) (l : LS) (n c : Nat) (ct : Int) (hm : ((n : Nat) : Int) ∈ sizes) : q18 ns (Lg (L3 (K8 l n) n c) ct) = .ok .next (Lg (L3 (K8 l n) n c) ct) := by
  let G := Lg (L3 (K8 l n) n c) ct
  have hb := sz_bounds hm
  have e1 := ne_ref n c (by omega) (by omega)
  have hx : (asB (op2 neD (getM 13) (pureM (.str "refused")))) G = .ok (decide (2 * n - 1 ≤ c ∧ c ≤ n * (n + 1) / 2)) G := ev_asB (ev_op2 (g1 := G) (g2 := G) (x := shownD n c) (y := refD) rfl rfl e1)
  by_cases h : 2 * n - 1 ≤ c ∧ c ≤ n * (n + 1) / 2
  · rw [decide_eq_true h] at hx
    refine ev_ifF (g1 := G) (ev_andT (g1 := G) hx (shown_ok ns n c 8 G (by omega) (by omega) h.1 h.2 ?_ rfl rfl)) rfl
    show Res.ok (shownD n c) G = _
    unfold shownD
    rw [if_pos h]
  · rw [decide_eq_false h] at hx
    exact ev_ifF (g1 := G) (ev_andF (g1 := G) hx) rfl
end K50

set_option Elab.async false
set_option linter.all false
set_option maxRecDepth 100000
set_option maxHeartbeats 4000000
/-! K50v: great sizes. -/
namespace K50
open PySem PySem.Spec L2 DL
theorem great_facts {n : Nat} (h1 : 8 ≤ n) (h2 : n ≤ 40) : lowOk (numF n) (partF n) = true ∧ (meanF n).1 * n = numF n ∧ (meanF n).2 = partF n ∧ finP (lowP (numF n) (partF n)) = true ∧ mrF 6 n 0 = ([3, 4, 5] : List Nat).getD ((if 15 < (n : Int) then 1 else 0) + (if 31 < (n : Int) then 1 else 0)) 0 := by
  have h := great_ok (n : Nat) (mem_rngI.mpr ⟨by omega, by omega⟩)
  unfold greatB at h
  simp only [Bool.and_eq_true, beq_iff_eq] at h
  obtain ⟨⟨⟨⟨a, b⟩, c⟩, d⟩, e⟩ := h
  exact ⟨a, b, c, d, by rw [Int.toNat_natCast] at e; exact e⟩
theorem q19_ok (ns : List Int) (l : LS) (ct : Int) (h0 : ns ≠ []) (h1 : ns.length ≤ 4000) (hc0 : 0 ≤ ct) (hc : ct ≤ 990) : ∃ n : Nat, 8 ≤ n ∧ n ≤ 40 ∧ q19 ns (Lg l ct) = .ok .next (Lg { l with s14 := .dat (eN n) } (ct + 1)) := by
  obtain ⟨v, v0, v1, hv⟩ := next_ok ns 33 ct h0 h1 hc0 (by omega) (by decide)
  obtain ⟨n, hn⟩ : ∃ n : Nat, 8 + v = (n : Nat) := ⟨(8 + v).toNat, by omega⟩
  refine ⟨n, by omega, by omega, ev_asg (g1 := Lg l (ct + 1)) (d := eN n) (ev_op2 (g1 := Lg l ct) (g2 := Lg l (ct + 1)) (x := .int 8) (y := .int v) rfl (ev_call (g1 := Lg l ct) (ss := [.sta, .dat (.int 33)]) rfl hv) ?_) rfl⟩
  show some (PyData.int (8 + v)) = _
  rw [hn]
theorem sq_facts {n : Nat} (h : 2 ≤ n) : (n - 1) * (n - 2) + 4 * n = n * (n + 1) + 2 := by
  obtain ⟨k, rfl⟩ : ∃ k, n = k + 2 := ⟨n - 2, by omega⟩
  have e1 : k + 2 - 1 = k + 1 := rfl
  have e2 : k + 2 - 2 = k := rfl
  rw [e1, e2]
  simp only [Nat.add_mul, Nat.mul_add]
  omega
theorem mulN {i j : Int} {a b : Nat} (hi : i = (a : Nat)) (hj : j = (b : Nat)) (h : a ≤ 1000) : mulXD (.int i) (.int j) = some (.int ((a * b : Nat) : Int)) := by
  subst hi
  subst hj
  rw [mulS (.inl (small_of (by omega) (by omega)))]
  rfl
theorem q20_ok (ns : List Int) (l : LS) (n : Nat) (ct : Int) (h0 : ns ≠ []) (h1 : ns.length ≤ 4000) (hc0 : 0 ≤ ct) (hc : ct ≤ 990) (hn : 8 ≤ n) (hn2 : n ≤ 40) : ∃ c : Nat, 2 * n - 1 ≤ c ∧ c ≤ n * (n + 1) / 2 ∧ q20 ns (Lg { l with s14 := .dat (eN n) } ct) = .ok .next (Lg { l with s14 := .dat (eN n), s12 := .dat (eN c) } (ct + 2)) := by
  obtain ⟨v, v0, v1, hv⟩ := next_ok ns 1009 ct h0 h1 hc0 (by omega) (by decide)
  obtain ⟨u, u0, u1, hu⟩ := next_ok ns 7 (ct + 1) h0 h1 (by omega) (by omega) (by decide)
  have hsq := sq_facts (n := n) (by omega)
  have em := mulN (i := (n : Int) - 1) (j := (n : Int) - 2) (a := n - 1) (b := n - 2) (by omega) (by omega) (by omega)
  have ef := fdiv2 ((n - 1) * (n - 2))
  generalize (n - 1) * (n - 2) = p at hsq em ef
  have hp : (0 : Int) < ((p / 2 : Nat) : Int) + 1 := by omega
  have e7 : mulXD (.int v) (.int 7) = some (.int (v * 7)) := mulS (.inr (by decide))
  have ez := modI (i := v * 7 + u) hp
  have z0 := Int.fmod_nonneg_of_pos (v * 7 + u) hp
  have z1 := Int.fmod_lt_of_pos (v * 7 + u) hp
  generalize hzz : (v * 7 + u).fmod (((p / 2 : Nat) : Int) + 1) = z at ez z0 z1
  obtain ⟨c, hcc⟩ : ∃ c : Nat, 2 * (n : Int) - 1 + z = (c : Nat) := ⟨(2 * (n : Int) - 1 + z).toNat, by omega⟩
  have ec : ct + 2 = ct + 1 + 1 := by omega
  rw [ec]
  let G : Int → Sg := fun c => Lg { l with s14 := .dat (eN n) } c
  refine ⟨c, by omega, by omega, ev_asg (g1 := G (ct + 1 + 1)) (d := eN c) (ev_op2 (g1 := G ct) (g2 := G (ct + 1 + 1)) (x := .int (2 * (n : Int) - 1)) (y := .int z) ?_ ?_ ?_) rfl⟩
  · exact ev_op2 (g1 := G ct) (g2 := G ct) (ev_op2 (g1 := G ct) (g2 := G ct) (x := .int 2) (y := .int (n : Nat)) rfl rfl (mul2 n)) rfl rfl
  · refine ev_op2 (g1 := G (ct + 1 + 1)) (g2 := G (ct + 1 + 1)) (x := .int (v * 7 + u)) (y := .int (((p / 2 : Nat) : Int) + 1)) (ev_op2 (g1 := G (ct + 1)) (g2 := G (ct + 1 + 1)) (x := .int (v * 7)) (y := .int u) (ev_op2 (g1 := G (ct + 1)) (g2 := G (ct + 1)) (x := .int v) (y := .int 7) ?_ rfl e7) ?_ rfl) ?_ ez
    · exact ev_call (g1 := G ct) (ss := [.sta, .dat (.int 1009)]) rfl hv
    · exact ev_call (g1 := G (ct + 1)) (ss := [.sta, .dat (.int 7)]) rfl hu
    · refine ev_op2 (g1 := G (ct + 1 + 1)) (g2 := G (ct + 1 + 1)) (x := .int ((p / 2 : Nat) : Int)) (y := .int 1) (ev_op2 (g1 := G (ct + 1 + 1)) (g2 := G (ct + 1 + 1)) (x := .int (p : Nat)) (y := .int 2) ?_ rfl ef) rfl rfl
      exact ev_op2 (g1 := G (ct + 1 + 1)) (g2 := G (ct + 1 + 1)) (x := .int ((n : Int) - 1)) (y := .int ((n : Int) - 2)) (ev_op2 (g1 := G (ct + 1 + 1)) (g2 := G (ct + 1 + 1)) rfl rfl rfl) (ev_op2 (g1 := G (ct + 1 + 1)) (g2 := G (ct + 1 + 1)) rfl rfl rfl) em
  · show some (PyData.int (2 * (n : Int) - 1 + z)) = _
    rw [hcc]
def L4 (l : LS) (n c : Nat) : LS := { l with s12 := .dat (eN c), s13 := .dat (tellD (eT (builtL n c))), s14 := .dat (eN n) }
theorem q21_ok (ns : List Int) (l : LS) (n c : Nat) (ct : Int) (hn : 8 ≤ n) (hn2 : n ≤ 40) (h3 : 2 * n - 1 ≤ c) (h4 : c ≤ n * (n + 1) / 2) : q21 ns (Lg { l with s14 := .dat (eN n), s12 := .dat (eN c) } ct) = .ok .next (Lg (L4 l n c) ct) := by
  let G := Lg { l with s14 := .dat (eN n), s12 := .dat (eN c) } ct
  have et := toldC ns 11 ct (eN n) (eN c) _ _ (by decide) (L2.atI_nat (j := 1) rfl) (ring_tells ns n c ct (by omega) hn2 h3 h4)
  have e1 : (callM h_L_told ns (datsM (consM (pureM (.int 11)) (consM (getM 14) (consM (getM 12) (pureM [])))))) G = .ok (tellD (eT (builtL n c))) G := ev_call (g1 := G) (ss := [.dat (.int 11), .dat (eN n), .dat (eN c)]) rfl et
  exact ev_asg (g1 := G) e1 rfl
theorem q22_ok (ns : List Int) (l : LS) (n c : Nat) (ct : Int) (hn : 8 ≤ n) (hn2 : n ≤ 40) (h3 : 2 * n - 1 ≤ c) (h4 : c ≤ n * (n + 1) / 2) : q22 ns (Lg (L4 l n c) ct) = .ok .next (Lg (L4 l n c) ct) := by
  let G := Lg (L4 l n c) ct
  have ht : (asB (op2 neD (op2 ixD (getM 13) (pureM (.int 0))) (pureM (.str "told")))) G = .ok false G := lg_ne (g1 := G) (ev_op2 (g1 := G) (g2 := G) (x := tellD (eT (builtL n c))) (y := .int 0) rfl rfl (told_ix0 (eT (builtL n c)))) rfl (fine_shaped f_told (by decide))
  exact ev_ifF (g1 := G) (ev_orF (g1 := G) ht (shown_ok ns n c 14 G (by omega) hn2 h3 h4 rfl rfl rfl)) rfl
theorem q24_ok (ns : List Int) (l : LS) (n : Nat) (ct : Int) (hn : 8 ≤ n) (hn2 : n ≤ 40) : ∃ y, q24 ns (Lg { l with s14 := .dat (eN n), s15 := .dat (.int 1) } ct) = .ok .next (Lh { l with s14 := .dat (eN n), s15 := .dat (.int (partF n)) } y .no ct) := by
  obtain ⟨g', e, p, y, hg, hp, _⟩ := forM_rel (k := putM 16) (body := (seqM (asgM (op2 mulXD (getM 15) (getM 16)) (putM 15)) nextM)) (enc := PyData.int) (fun (xs : List Int) g => ∃ (p : Int) (y : DL.Slot), g = Lh { l with s14 := .dat (eN n), s15 := .dat (.int p) } y .no ct ∧ xs.foldl (fun p k => p * k) p = partF n ∧ ∀ x ∈ xs, 0 ≤ x ∧ x ≤ 100) (fun x r g ⟨p, y, hg, hp, hb⟩ => by
    subst hg
    have hx := hb x List.mem_cons_self
    have m1 := mulS (i := p) (j := x) (.inr (small_of (by omega) (by omega)))
    refine ⟨Lh { l with s14 := .dat (eN n), s15 := .dat (.int (p * x)) } (.dat (.int x)) .no ct, ?_, p * x, _, rfl, hp, fun y hy => hb y (List.mem_cons_of_mem _ hy)⟩
    let G := Lh { l with s14 := .dat (eN n), s15 := .dat (.int p) } (.dat (.int x)) .no ct
    exact ev_go (g1 := G) rfl (ev_next (ev_asg (g1 := G) (d := .int (p * x)) (ev_op2 (g1 := G) (g2 := G) (x := .int p) (y := .int x) rfl rfl m1) rfl) rfl)) (rngI 2 ((n : Int) + 1)) (Lg { l with s14 := .dat (eN n), s15 := .dat (.int 1) } ct) ⟨1, .no, rfl, rfl, fun x hx => by have := mem_rngI.mp hx; omega⟩
  have hp : p = partF n := hp
  subst hp
  subst hg
  exact ⟨y, ev_for (g1 := Lg { l with s14 := .dat (eN n), s15 := .dat (.int 1) } ct) (xs := (rngI 2 ((n : Int) + 1)).map PyData.int) (ev_srcA (ds := [.int 2, .int ((n : Int) + 1)]) rfl (rng2_i 2 _ (by omega) (by omega) (by omega) (by omega))) e⟩
theorem fdivI {i j : Int} (h : 0 < j) (h2 : j ≤ 1000) : fdivD (.int i) (.int j) = some (.int (i.fdiv j)) := if_pos (decide_eq_true ⟨by omega, by omega⟩)
theorem q25_ok (ns : List Int) (l : LS) (n : Nat) (y : DL.Slot) (ct : Int) (hn : 8 ≤ n) (hn2 : n ≤ 40) : q25 ns (Lh { l with s14 := .dat (eN n), s15 := .dat (.int (partF n)) } y .no ct) = .ok .next (Lg { l with s14 := .dat (eN n), s15 := .dat (.int (partF n)), s17 := .dat (eP (lowP (numF n) (partF n))) } ct) := by
  let l2 : LS := { l with s14 := .dat (eN n), s15 := .dat (.int (partF n)) }
  let G := Lg l2 ct
  have e3 := L_terms_tells ns _ _ ct (great_facts hn hn2).1
  have hh := lcTm (src := srcA rng2 (consM (pureM (.int 1)) (consM (op2 addD (getM 14) (pureM (.int 1))) (pureM [])))) (k := putM 16) (e := op2 mulXD (getM 14) (op2 fdivD (getM 15) (getM 16))) (vs := [16]) (g := Lh l2 y .no ct) (g1 := Lh l2 y .no ct) PyData.int (rngI 1 ((n : Int) + 1)) (fun k => .int ((n : Int) * (partF n).fdiv k)) (ev_srcA (ds := [.int 1, .int ((n : Int) + 1)]) rfl (rng2_i 1 _ (by omega) (by omega) (by omega) (by omega))) (fun k hk => by
    have hk := mem_rngI.mp hk
    let G2 := Lh l2 (.dat (.int k)) .no ct
    exact ⟨G2, G2, rfl, ev_op2 (g1 := G2) (g2 := G2) (x := .int (n : Nat)) (y := .int ((partF n).fdiv k)) rfl (ev_op2 (g1 := G2) (g2 := G2) (x := .int (partF n)) (y := .int k) rfl rfl (fdivI (by omega) (by omega))) (mulS (.inl (small_of (by omega) (by omega)))), rfl⟩) (size_le _ (by rw [len_rngI]; omega))
  have hs := sum_L ((rngI 1 ((n : Int) + 1)).map fun k => (n : Int) * (partF n).fdiv k)
  have hmap : ((rngI 1 ((n : Int) + 1)).map fun k => (n : Int) * (partF n).fdiv k).map PyData.int = (rngI 1 ((n : Int) + 1)).map fun k => PyData.int ((n : Int) * (partF n).fdiv k) := by rw [List.map_map]; rfl
  rw [hmap] at hs
  have e1 : (opN sumD (consM (lstM (lcM (srcA rng2 (consM (pureM (.int 1)) (consM (op2 addD (getM 14) (pureM (.int 1))) (pureM [])))) (putM 16) yesM (op2 mulXD (getM 14) (op2 fdivD (getM 15) (getM 16))) [16])) (pureM []))) (Lh l2 y .no ct) = .ok (.int (numF n)) G := ev_opN (g1 := G) (ev_cons (g1 := G) (ev_lst hh) rfl) hs
  exact ev_asg (g1 := G) (d := eP (lowP (numF n) (partF n))) (ev_call (g1 := G) (ss := [.dat (.int (numF n)), .dat (.int (partF n))]) (ev_dats (ds := [.int (numF n), .int (partF n)]) (ev_cons e1 (ev_cons (g1 := G) rfl rfl))) e3) rfl
end K50

set_option Elab.async false
set_option linter.all false
set_option maxRecDepth 100000
set_option maxHeartbeats 4000000
/-! K50w: the turn's end. -/
namespace K50
open PySem PySem.Spec L2 DL
def L5 (l : LS) (n : Nat) : LS := { l with s14 := .dat (eN n), s15 := .dat (.int (partF n)), s17 := .dat (eP (lowP (numF n) (partF n))) }
def greatR (n : Nat) (k : Int) : D := if k = 5 then eN (n * (n + 1) / 2) else if k = 6 then eN (2 * n - 1) else eP (lowP (numF n) (partF n))
theorem greatR5 (n : Nat) : greatR n 5 = eN (n * (n + 1) / 2) := if_pos rfl
theorem greatR6 (n : Nat) : greatR n 6 = eN (2 * n - 1) := (if_neg (by decide)).trans (if_pos rfl)
theorem greatR7 (n : Nat) : greatR n 7 = eP (lowP (numF n) (partF n)) := (if_neg (by decide)).trans (if_neg (by decide))
theorem great_told (ns : List Int) (n : Nat) (ct : Int) (y : D) (hn : 8 ≤ n) (hn2 : n ≤ 40) : ∀ k ∈ ([5, 6, 7] : List Int), Tells h_L_told ns [.dat (.int k), .dat (eN n), .dat y] ct (tellD (greatR n k)) ct := by
  intro k hk
  obtain ⟨h1, h2, h3, h4, h5⟩ := great_facts hn hn2
  simp only [List.mem_cons, List.not_mem_nil, or_false] at hk
  rcases hk with e | e | e <;> subst e
  · exact toldB ns 5 ct (eN n) y _ _ (by decide) (by decide) (L2.atI_nat (j := 0) rfl) (most_tells ns n ct (by omega) (by omega))
  · exact toldB ns 6 ct (eN n) y _ _ (by decide) (by decide) (L2.atI_nat (j := 1) rfl) (fewest_tells ns n ct (by omega) (by omega))
  · have hm := mean_tells ns n ct (by omega) (by omega) (by rw [h2, h3]; exact h1)
    rw [h2, h3] at hm
    exact toldB ns 7 ct (eN n) y _ _ (by decide) (by decide) (L2.atI_nat (j := 2) rfl) hm
theorem fine_great {n : Nat} (hn : 8 ≤ n) (hn2 : n ≤ 40) (k : Int) : Fine 2 6000 (greatR n k) := by
  have hc40 : n * (n + 1) ≤ 40 * 41 := Nat.mul_le_mul hn2 (by omega)
  unfold greatR
  split
  · exact (fineN (by omega)).mono (by decide) (by decide)
  · split
    · exact (fineN (by omega)).mono (by decide) (by decide)
    · exact (fine_P (great_facts hn hn2).2.2.2.1).mono (by decide) (by decide)
theorem q26_ok (ns : List Int) (l : LS) (n : Nat) (ct : Int) (hn : 8 ≤ n) (hn2 : n ≤ 40) : q26 ns (Lg (L5 l n) ct) = .ok .next (Lg (L5 l n) ct) := by
  let G := Lg (L5 l n) ct
  have hf : Fine 4 60000 (.list (([5, 6, 7] : List Int).map fun k => tellD (greatR n k))) := (Fine.list (k := 3) (n := 2 * (6000 + 1)) (L := 3) (xs := ([5, 6, 7] : List Int).map fun k => tellD (greatR n k)) (fun x hx => by
    obtain ⟨k, hk, rfl⟩ := List.mem_map.mp hx
    exact f_tell (fine_great hn hn2 k) (by decide)) (Nat.le_refl 3)).mono (by decide) (by decide)
  refine same_ok ns _ G G G _ _ (hf.mono (by decide) (by decide)) (ev_lst ?_) (ev_lst ?_)
  · have e4 : (lstM (guardL (consM (pureM (.int 5)) (consM (pureM (.int 6)) (consM (pureM (.int 7)) (pureM [])))))) G = .ok (.list [.int 5, .int 6, .int 7]) G := ev_lst (ev_guard (ds := [.int 5, .int 6, .int 7]) rfl (size_le 3 (by decide)))
    refine lcTm (g1 := G) PyData.int [5, 6, 7] (fun k => tellD (greatR n k)) (ev_bind e4 rfl) (fun k hk => ?_) (size_le 3 (by decide))
    let G2 := Lh (L5 l n) (.dat (.int k)) .no ct
    exact ⟨G2, G2, rfl, ev_call (g1 := G2) (ss := [.dat (.int k), .dat (eN n), .dat (.int 0)]) rfl (great_told ns n ct (.int 0) hn hn2 k hk), rfl⟩
  · have em := mul_nextN n hn2
    have ef := fdiv2 (n * (n + 1))
    have c1 : (op2 fdivD (op2 mulXD (getM 14) (op2 addD (getM 14) (pureM (.int 1)))) (pureM (.int 2))) G = .ok (greatR n 5) G := by
      rw [greatR5]
      exact ev_op2 (g1 := G) (g2 := G) (x := .int ((n * (n + 1) : Nat) : Int)) (y := .int 2) (ev_op2 (g1 := G) (g2 := G) (x := .int (n : Nat)) (y := .int ((n : Int) + 1)) rfl (ev_op2 (g1 := G) (g2 := G) rfl rfl rfl) em) rfl ef
    have e2n : greatR n 6 = .int (2 * (n : Int) - 1) := by
      have hi : ((2 * n - 1 : Nat) : Int) = 2 * (n : Int) - 1 := by omega
      exact (greatR6 n).trans (congrArg PyData.int hi)
    have c2 : (op2 subD (op2 mulXD (pureM (.int 2)) (getM 14)) (pureM (.int 1))) G = .ok (greatR n 6) G := by
      rw [e2n]
      exact ev_op2 (g1 := G) (g2 := G) (ev_op2 (g1 := G) (g2 := G) (x := .int 2) (y := .int (n : Nat)) rfl rfl (mul2 n)) rfl rfl
    have t : ∀ (f : M D) (d : D), f G = .ok d G → (tupM (consM (pureM (.str "told")) (consM f (pureM [])))) G = .ok (tellD d) G := fun f d h => ev_tup (ds := [.str "told", d]) (ev_cons (g1 := G) rfl (ev_cons (g1 := G) h rfl)) sz2
    exact ev_guard (ds := [tellD (greatR n 5), tellD (greatR n 6), tellD (greatR n 7)]) (ev_cons (g1 := G) (t _ _ c1) (ev_cons (g1 := G) (t _ _ c2) (ev_cons (g1 := G) (t (getM 17) (greatR n 7) (by rw [greatR7]; rfl)) rfl))) (size_le 3 (by decide))
theorem q27_ok (ns : List Int) (l : LS) (m n : Nat) (ct : Int) (hm : ((m : Nat) : Int) ∈ sizes) (h8 : l.s8 = .dat (eN m)) (hn : 8 ≤ n) (hn2 : n ≤ 40) : q27 ns (Lg (L5 l n) ct) = .ok .next (Lg (L5 l n) ct) := by
  let G := Lg (L5 l n) ct
  have hb := sz_bounds hm
  obtain ⟨f1, f2⟩ := ordersL_ok hm
  have g8 : getM 8 G = .ok (eN m) G := by
    show (match some l.s8 with
      | some (.dat d) => Res.ok d G
      | some (.own xs) => Res.ok (.list xs) { G with sl := G.sl.set 8 (.dat (.list xs)) }
      | some (.ownT kvs) => Res.ok (dT kvs) { G with sl := G.sl.set 8 (.dat (dT kvs)) }
      | some (.ownK kvs) => Res.ok (dK kvs) { G with sl := G.sl.set 8 (.dat (dK kvs)) }
      | _ => .bad) = _
    rw [h8]
  have hr := rnd_ok (m : Nat) hm
  unfold rndB at hr
  rw [beq_iff_eq, Int.toNat_natCast] at hr
  have t : ∀ (f : M D) (d : D), f G = .ok d G → (tupM (consM (pureM (.str "told")) (consM f (pureM [])))) G = .ok (tellD d) G := fun f d h => ev_tup (ds := [.str "told", d]) (ev_cons (g1 := G) rfl (ev_cons (g1 := G) h rfl)) sz2
  have hmr : ∀ k : Nat, k ≤ 40 → mrF 6 k 0 ≤ 6 := by decide +kernel
  have tm : ∀ k : Nat, 1 ≤ k → k ≤ 40 → ∀ ct, Tells h_L_told ns [.dat (.int 9), .dat (eN k), .dat (.int 0)] ct (tellD (eN (mrF 6 k 0))) ct := fun k k1 k2 ct => toldB ns 9 ct (eN k) (.int 0) _ _ (by decide) (by decide) (L2.atI_nat (j := 4) rfl) (most_rounds_tells ns k ct k1 k2)
  have fz : ∀ k : Nat, k ≤ 40 → SeqAt.shaped (tellD (eN (mrF 6 k 0))) = true := fun k hk => fine_shaped (f_tell (fineN (by have := hmr k hk; omega)) (Nat.le_refl 20)) (by decide)
  refine ev_ifF (g1 := G) (ev_orF (g1 := G) (lg_ne (g1 := G) (d := tellD (eN (mrF 6 m 0))) ?_ (t _ _ ?_) (fz m (by omega))) (lg_ne (g1 := G) (d := tellD (eN (mrF 6 n 0))) ?_ (t _ _ ?_) (fz n hn2))) rfl
  · exact ev_call (g1 := G) (ss := [.dat (.int 9), .dat (eN m), .dat (.int 0)]) (ev_dats (ds := [.int 9, eN m, .int 0]) (ev_cons (g1 := G) rfl (ev_cons g8 rfl))) (tm m (by omega) (by omega) ct)
  · have ea := L_all_tells ns m ct hm
    have e1 : (callM h_L_all ns (datsM (consM (getM 8) (pureM [])))) G = .ok (.list ((ordersL m).map eT)) G := ev_call (g1 := G) (ss := [.dat (eN m)]) (ev_dats (ds := [eN m]) (ev_cons g8 rfl)) ea
    have hh := lcTm (src := srcM (callM h_L_all ns (datsM (consM (getM 8) (pureM []))))) (k := putM 19) (e := op2 subD (opN lenD (consM (callM h_L_rounds ns (datsM (consM (getM 19) (pureM [])))) (pureM []))) (pureM (.int 1))) (vs := [19]) (g := G) (g1 := G) eT (ordersL m) (fun w => .int (((roundsL w).length : Nat) - 1)) (ev_bind e1 rfl) (fun w hw => by
      let G2 := Lh (L5 l n) .no (.dat (eT w)) ct
      have hwl := f2 w hw
      have ew := L_rounds_tells ns w ct (by omega)
      have e2 : (callM h_L_rounds ns (datsM (consM (getM 19) (pureM [])))) G2 = .ok (.list (eTs (roundsL w))) G2 := ev_call (g1 := G2) (ss := [.dat (eT w)]) rfl ew
      have el : lenD [.list (eTs (roundsL w))] = some (.int ((roundsL w).length : Nat)) := by
        show some (PyData.int ((eTs (roundsL w)).length : Nat)) = _
        unfold eTs
        rw [List.length_map]
      exact ⟨G2, G2, rfl, ev_op2 (g1 := G2) (g2 := G2) (ev_opN (g1 := G2) (ev_cons (g1 := G2) e2 rfl) el) rfl rfl, rfl⟩) (size_le _ (by omega))
    have hx := max_L _ _ hr
    have hmap : ((ordersL m).map fun w => ((roundsL w).length : Int) - 1).map PyData.int = (ordersL m).map fun w => PyData.int (((roundsL w).length : Nat) - 1) := by rw [List.map_map]; rfl
    rw [hmap] at hx
    exact ev_opN (g1 := G) (ev_cons (g1 := G) (ev_lst hh) rfl) hx
  · exact ev_call (g1 := G) (ss := [.dat (.int 9), .dat (eN n), .dat (.int 0)]) rfl (tm n (by omega) hn2 ct)
  · obtain ⟨a, ha⟩ : ∃ a, a = decide ((15 : Int) < (n : Nat)) := ⟨_, rfl⟩
    obtain ⟨b, hb2⟩ : ∃ b, b = decide ((31 : Int) < (n : Nat)) := ⟨_, rfl⟩
    have e5 := (great_facts hn hn2).2.2.2.2
    have ei : mrF 6 n 0 = ([3, 4, 5] : List Nat).getD ((if a = true then 1 else 0) + (if b = true then 1 else 0)) 0 := by
      rw [e5, ha, hb2]
      congr 2
      · congr 1; simp
      · congr 1; simp
    refine ev_op2 (g1 := G) (g2 := G) (x := .list [.int 3, .int 4, .int 5]) (y := .int ((if a = true then 1 else 0) + (if b = true then 1 else 0))) (ev_lst (ev_guard (ds := [.int 3, .int 4, .int 5]) rfl (size_le 3 (by decide)))) (ev_op2 (g1 := G) (g2 := G) (x := .int (if a = true then 1 else 0)) (y := .int (if b = true then 1 else 0)) (ev_opN (g1 := G) (xs := [.bool a]) (ev_cons (g1 := G) (ev_op2 (g1 := G) (g2 := G) (x := .int (n : Nat)) (y := .int 15) rfl rfl (by rw [ha]; rfl)) rfl) rfl) (ev_opN (g1 := G) (xs := [.bool b]) (ev_cons (g1 := G) (ev_op2 (g1 := G) (g2 := G) (x := .int (n : Nat)) (y := .int 31) rfl rfl (by rw [hb2]; rfl)) rfl) rfl) rfl) ?_
    rw [ei]
    cases a <;> cases b
    · exact L2.atI_nat (j := 0) rfl
    · exact L2.atI_nat (j := 1) rfl
    · exact L2.atI_nat (j := 1) rfl
    · exact L2.atI_nat (j := 2) rfl
/-! errors -/
theorem chk_nil (ns : List Int) (ct : Int) : h_check_numbers ns [.dat (eT [])] ct = .exc "NotAllowed" ct := check_refused ns [] ct (by decide) (by decide) (.inr rfl)
theorem chk_two (ns : List Int) (ct : Int) : h_check_numbers ns [.dat (eT [1, 1])] ct = .exc "NotAllowed" ct := check_refused ns [1, 1] ct (by decide) (by decide) (.inl (by decide))
theorem chk_three (ns : List Int) (ct : Int) : h_check_numbers ns [.dat (eT [2, 1, 2])] ct = .exc "NotAllowed" ct := check_refused ns [2, 1, 2] ct (by decide) (by decide) (.inl (by decide))
def wideL : List Int := (List.range 41).map fun k : Nat => (k : Int)
theorem chk_wide (ns : List Int) (ct : Int) : h_check_numbers ns [.dat (eT wideL)] ct = .exc "TooLarge" ct := check_large ns wideL ct (by decide) (.inl (by decide))
theorem chk_big (ns : List Int) (ct : Int) : h_check_numbers ns [.dat (eT [1000001])] ct = .exc "TooLarge" ct := check_large ns [1000001] ct (by decide) (.inr (by decide))
theorem five_in {k : Int} (h : k ∈ rngI 0 5) : k ∈ ([0, 1, 2, 3, 4, 12] : List Int) := by
  rw [rngI5] at h
  simp only [List.mem_cons, List.not_mem_nil, or_false] at h ⊢
  omega
def largD : D := .str "large"
theorem f_larg : Fine 0 20 largD := fine_of (by decide +kernel)
/-- one row told in five ways -/
theorem five_lc (ns : List Int) (l : LS) (ct : Int) (row : List Int) (f : M D) (n z : Str) (hz : nmE n = some z) (hf : ∀ k, f (Lh l (.dat (.int k)) .no ct) = .ok (eT row) (Lh l (.dat (.int k)) .no ct)) (h : ∀ ct, h_check_numbers ns [.dat (eT row)] ct = .exc n ct) :
    (lstM (lcM (srcA rng1 (consM (pureM (.int 5)) (pureM []))) (putM 16) yesM (callM h_L_told ns (datsM (consM (getM 16) (consM f (consM (pureM (.int 0)) (pureM [])))))) [16])) (Lg l ct) = .ok (.list (List.replicate 5 (.str z))) (Lg l ct) := by
  have hh := lcTm (src := srcA rng1 (consM (pureM (.int 5)) (pureM []))) (k := putM 16) (e := callM h_L_told ns (datsM (consM (getM 16) (consM f (consM (pureM (.int 0)) (pureM [])))))) (vs := [16]) (g := Lg l ct) (g1 := Lg l ct) PyData.int (rngI 0 5) (fun _ => (.str z : D)) (ev_srcA (ds := [.int 5]) rfl (rng1_i 5 (by decide) (by decide))) (fun k hk => by
    let G2 := Lh l (.dat (.int k)) .no ct
    exact ⟨G2, G2, rfl, ev_call (g1 := G2) (ss := [.dat (.int k), .dat (eT row), .dat (.int 0)]) (ev_dats (ds := [.int k, eT row, .int 0]) (ev_cons (g1 := G2) rfl (ev_cons (g1 := G2) (hf k) rfl))) (row_X ns row ct (.int 0) n z hz h k (five_in hk)), rfl⟩) (size_le _ (by rw [rngI5]; decide))
  rw [rngI5] at hh
  exact ev_lst hh
theorem q28_ok (ns : List Int) (l : LS) (ct : Int) : q28 ns (Lg l ct) = .ok .next (Lg l ct) := by
  let G := Lg l ct
  have a1 := five_lc ns l ct [] (tupM (pureM [])) "NotAllowed" "refused" nm_refused (fun k => ev_tup (ds := []) rfl sz0) (chk_nil ns)
  have a2 := five_lc ns l ct [1, 1] (tupM (consM (pureM (.int 1)) (consM (pureM (.int 1)) (pureM [])))) "NotAllowed" "refused" nm_refused (fun k => ev_tup (ds := [.int 1, .int 1]) rfl sz2) (chk_two ns)
  have aa : addD (.list (List.replicate 5 refD)) (.list (List.replicate 5 refD)) = some (.list (List.replicate 10 refD)) := add_L (size_le _ (by simp))
  have hm := mul_str refD 10 10 rfl (by decide)
  have hm2 := mul_str refD 2 2 rfl (by decide)
  have er : (lstM (guardL (consM (pureM (.str "refused")) (pureM [])))) G = .ok (.list [refD]) G := ev_lst (ev_guard (ds := [refD]) rfl sz1)
  refine ev_ifF (g1 := G) (ev_orF (g1 := G) (lg_ne (g1 := G) (d := .list (List.replicate 10 refD)) (ev_op2 a1 a2 aa) (ev_op2 (g1 := G) (g2 := G) (y := .int 10) er rfl hm) (fine_shaped (fine_refs refD f_ref 10 (by decide)) (by decide))) (lg_ne (g1 := G) (d := .list (List.replicate 2 refD)) (ev_lst ?_) (ev_op2 (g1 := G) (g2 := G) (y := .int 2) er rfl hm2) (fine_shaped (fine_refs refD f_ref 2 (by decide)) (by decide)))) rfl
  have e0 : (tupM (pureM [])) G = .ok (eT []) G := ev_tup (ds := []) rfl sz0
  have e1 : (tupM (consM (pureM (.int 2)) (consM (pureM (.int 1)) (consM (pureM (.int 2)) (pureM []))))) G = .ok (eT [2, 1, 2]) G := ev_tup (ds := [.int 2, .int 1, .int 2]) rfl (size_le 3 (by decide))
  have e2 : (lstM (guardL (consM (tupM (pureM [])) (consM (tupM (consM (pureM (.int 2)) (consM (pureM (.int 1)) (consM (pureM (.int 2)) (pureM []))))) (pureM []))))) G = .ok (.list [eT [], eT [2, 1, 2]]) G := ev_lst (ev_guard (ds := [eT [], eT [2, 1, 2]]) (ev_cons e0 (ev_cons e1 rfl)) sz2)
  have hh := lcTm (src := srcM (lstM (guardL (consM (tupM (pureM [])) (consM (tupM (consM (pureM (.int 2)) (consM (pureM (.int 1)) (consM (pureM (.int 2)) (pureM []))))) (pureM [])))))) (k := putM 19) (e := callM h_L_told ns (datsM (consM (pureM (.int 12)) (consM (getM 19) (consM (pureM (.int 0)) (pureM [])))))) (vs := [19]) (g := G) (g1 := G) eT [[], [2, 1, 2]] (fun _ => refD) (ev_bind e2 rfl) (fun w hw => by
    let G2 := Lh l .no (.dat (eT w)) ct
    have hc : ∀ ct, h_check_numbers ns [.dat (eT w)] ct = .exc "NotAllowed" ct := by
      have hw : w = [] ∨ w = [2, 1, 2] := by simpa using hw
      rcases hw with e | e <;> subst e
      · exact chk_nil ns
      · exact chk_three ns
    exact ⟨G2, G2, rfl, ev_call (g1 := G2) (ss := [.dat (.int 12), .dat (eT w), .dat (.int 0)]) rfl (row_X ns w ct (.int 0) "NotAllowed" "refused" nm_refused hc 12 (by decide)), rfl⟩) sz2
  exact hh
theorem rngI12 : rngI 5 12 = [5, 6, 7, 8, 9, 10, 11] := by decide
theorem low_lc (ns : List Int) (l : LS) (ct n : Int) (f : M D) (hn : n < 1) (hf : ∀ k, f (Lh l (.dat (.int k)) .no ct) = .ok (.int n) (Lh l (.dat (.int k)) .no ct)) :
    (lstM (lcM (srcA rng2 (consM (pureM (.int 5)) (consM (pureM (.int 12)) (pureM [])))) (putM 16) yesM (callM h_L_told ns (datsM (consM (getM 16) (consM f (consM (pureM (.int 2)) (pureM [])))))) [16])) (Lg l ct) = .ok (.list (List.replicate 7 refD)) (Lg l ct) := by
  have hh := lcTm (src := srcA rng2 (consM (pureM (.int 5)) (consM (pureM (.int 12)) (pureM [])))) (k := putM 16) (e := callM h_L_told ns (datsM (consM (getM 16) (consM f (consM (pureM (.int 2)) (pureM [])))))) (vs := [16]) (g := Lg l ct) (g1 := Lg l ct) PyData.int (rngI 5 12) (fun _ => refD) (ev_srcA (ds := [.int 5, .int 12]) rfl (rng2_i 5 12 (by decide) (by decide) (by decide) (by decide))) (fun k hk => by
    let G2 := Lh l (.dat (.int k)) .no ct
    have ht : Tells h_L_told ns [.dat (.int k), .dat (.int n), .dat (.int 2)] ct refD ct := by
      have c1 := check_many_low ns n 40 ct hn (by decide)
      have c2 := check_many_low ns n 7 ct hn (by decide)
      rw [rngI12] at hk
      simp only [List.mem_cons, List.not_mem_nil, or_false] at hk
      by_cases h8 : k ∈ ([8, 10] : List Int)
      · exact seven_told ns n 2 ct "NotAllowed" "refused" nm_refused c2 k h8
      · refine many_told ns n 2 ct "NotAllowed" "refused" nm_refused c1 k ?_
        simp only [List.mem_cons, List.not_mem_nil, or_false] at h8 ⊢
        omega
    exact ⟨G2, G2, rfl, ev_call (g1 := G2) (ss := [.dat (.int k), .dat (.int n), .dat (.int 2)]) (ev_dats (ds := [.int k, .int n, .int 2]) (ev_cons (g1 := G2) rfl (ev_cons (g1 := G2) (hf k) rfl))) ht, rfl⟩) (size_le _ (by rw [rngI12]; decide))
  rw [rngI12] at hh
  exact ev_lst hh
theorem q29_ok (ns : List Int) (l : LS) (ct : Int) : q29 ns (Lg l ct) = .ok .next (Lg l ct) := by
  let G := Lg l ct
  have a1 := low_lc ns l ct 0 (pureM (.int 0)) (by decide) (fun k => rfl)
  have a2 := low_lc ns l ct (-1) (op1 negD (pureM (.int 1))) (by decide) (fun k => rfl)
  have aa : addD (.list (List.replicate 7 refD)) (.list (List.replicate 7 refD)) = some (.list (List.replicate 14 refD)) := add_L (size_le _ (by simp))
  have hm := mul_str refD 14 14 rfl (by decide)
  have er : (lstM (guardL (consM (pureM (.str "refused")) (pureM [])))) G = .ok (.list [refD]) G := ev_lst (ev_guard (ds := [refD]) rfl sz1)
  exact ev_ifF (g1 := G) (lg_ne (g1 := G) (d := .list (List.replicate 14 refD)) (ev_op2 a1 a2 aa) (ev_op2 (g1 := G) (g2 := G) (y := .int 14) er rfl hm) (fine_shaped (fine_refs refD f_ref 14 (by decide)) (by decide))) rfl
theorem q30_ok (ns : List Int) (l : LS) (ct : Int) : q30 ns (Lg l ct) = .ok .next (Lg { l with s18 := .dat (eT wideL) } ct) := by
  have el := lrg_n 41 41 rfl (by decide)
  have e1 : (trgM (pureM (.int 41))) (Lg l ct) = .ok (eT wideL) (Lg l ct) := ev_bind (a := .int 41) (g1 := Lg l ct) rfl (ev_bind (ev_liftO el) rfl)
  exact ev_asg (g1 := Lg l ct) e1 rfl
theorem q31_ok (ns : List Int) (l : LS) (ct : Int) : q31 ns (Lg { l with s18 := .dat (eT wideL) } ct) = .ok .next (Lg { l with s18 := .dat (eT wideL) } ct) := by
  let l2 : LS := { l with s18 := .dat (eT wideL) }
  let G := Lg l2 ct
  have s6 : (lstM (guardL (consM (pureM (.int 0)) (consM (pureM (.int 1)) (consM (pureM (.int 2)) (consM (pureM (.int 3)) (consM (pureM (.int 4)) (consM (pureM (.int 12)) (pureM []))))))))) G = .ok (.list [.int 0, .int 1, .int 2, .int 3, .int 4, .int 12]) G := ev_lst (ev_guard (ds := [.int 0, .int 1, .int 2, .int 3, .int 4, .int 12]) rfl (size_le 6 (by decide)))
  have s5 : (lstM (guardL (consM (pureM (.int 5)) (consM (pureM (.int 6)) (consM (pureM (.int 7)) (consM (pureM (.int 9)) (consM (pureM (.int 11)) (pureM [])))))))) G = .ok (.list [.int 5, .int 6, .int 7, .int 9, .int 11]) G := ev_lst (ev_guard (ds := [.int 5, .int 6, .int 7, .int 9, .int 11]) rfl (size_le 5 (by decide)))
  have s2 : (lstM (guardL (consM (pureM (.int 8)) (consM (pureM (.int 10)) (pureM []))))) G = .ok (.list [.int 8, .int 10]) G := ev_lst (ev_guard (ds := [.int 8, .int 10]) rfl sz2)
  have a1 := lcTm (src := srcM (lstM (guardL (consM (pureM (.int 0)) (consM (pureM (.int 1)) (consM (pureM (.int 2)) (consM (pureM (.int 3)) (consM (pureM (.int 4)) (consM (pureM (.int 12)) (pureM [])))))))))) (k := putM 16) (e := callM h_L_told ns (datsM (consM (getM 16) (consM (getM 18) (consM (pureM (.int 0)) (pureM [])))))) (vs := [16]) (g := G) (g1 := G) PyData.int [0, 1, 2, 3, 4, 12] (fun _ => largD) (ev_bind s6 rfl) (fun k hk => by
    let G2 := Lh l2 (.dat (.int k)) .no ct
    exact ⟨G2, G2, rfl, ev_call (g1 := G2) (ss := [.dat (.int k), .dat (eT wideL), .dat (.int 0)]) rfl (row_X ns wideL ct (.int 0) "TooLarge" "large" nm_large (chk_wide ns) k hk), rfl⟩) (size_le 6 (by decide))
  have a2 := five_lc ns l2 ct [1000001] (tupM (consM (pureM (.int 1000001)) (pureM []))) "TooLarge" "large" nm_large (fun k => ev_tup (ds := [.int 1000001]) rfl sz1) (chk_big ns)
  have a3 := lcTm (src := srcM (lstM (guardL (consM (pureM (.int 5)) (consM (pureM (.int 6)) (consM (pureM (.int 7)) (consM (pureM (.int 9)) (consM (pureM (.int 11)) (pureM []))))))))) (k := putM 16) (e := callM h_L_told ns (datsM (consM (getM 16) (consM (pureM (.int 41)) (consM (pureM (.int 99)) (pureM [])))))) (vs := [16]) (g := G) (g1 := G) PyData.int [5, 6, 7, 9, 11] (fun _ => largD) (ev_bind s5 rfl) (fun k hk => by
    let G2 := Lh l2 (.dat (.int k)) .no ct
    exact ⟨G2, G2, rfl, ev_call (g1 := G2) (ss := [.dat (.int k), .dat (.int 41), .dat (.int 99)]) rfl (many_told ns 41 99 ct "TooLarge" "large" nm_large (check_many_large ns 41 40 ct (by decide)) k hk), rfl⟩) (size_le 5 (by decide))
  have a4 := lcTm (src := srcM (lstM (guardL (consM (pureM (.int 8)) (consM (pureM (.int 10)) (pureM [])))))) (k := putM 16) (e := callM h_L_told ns (datsM (consM (getM 16) (consM (pureM (.int 8)) (consM (pureM (.int 15)) (pureM [])))))) (vs := [16]) (g := G) (g1 := G) PyData.int [8, 10] (fun _ => largD) (ev_bind s2 rfl) (fun k hk => by
    let G2 := Lh l2 (.dat (.int k)) .no ct
    exact ⟨G2, G2, rfl, ev_call (g1 := G2) (ss := [.dat (.int k), .dat (.int 8), .dat (.int 15)]) rfl (seven_told ns 8 15 ct "TooLarge" "large" nm_large (check_many_large ns 8 7 ct (by decide)) k hk), rfl⟩) sz2
  have c1 : addD (.list (List.replicate 6 largD)) (.list (List.replicate 5 largD)) = some (.list (List.replicate 11 largD)) := add_L (size_le _ (by simp))
  have c2 : addD (.list (List.replicate 11 largD)) (.list (List.replicate 5 largD)) = some (.list (List.replicate 16 largD)) := add_L (size_le _ (by simp))
  have c3 : addD (.list (List.replicate 16 largD)) (.list (List.replicate 2 largD)) = some (.list (List.replicate 18 largD)) := add_L (size_le _ (by simp))
  have hm := mul_str largD 18 18 rfl (by decide)
  have er : (lstM (guardL (consM (pureM (.str "large")) (pureM [])))) G = .ok (.list [largD]) G := ev_lst (ev_guard (ds := [largD]) rfl sz1)
  exact ev_ifF (g1 := G) (lg_ne (g1 := G) (d := .list (List.replicate 18 largD)) (ev_op2 (ev_op2 (ev_op2 (ev_lst a1) a2 c1) (ev_lst a3) c2) (ev_lst a4) c3) (ev_op2 (g1 := G) (g2 := G) (y := .int 18) er rfl hm) (fine_shaped (fine_refs largD f_larg 18 (by decide)) (by decide))) rfl
end K50

set_option Elab.async false
set_option linter.all false
set_option maxRecDepth 100000
set_option maxHeartbeats 4000000
/-! K50y: the law answers True. -/
namespace K50
open PySem PySem.Spec L2 DL
theorem turn_ok (ns : List Int) (h0 : ns ≠ []) (h1 : ns.length ≤ 4000) (l : LS) (ct : Int) (hc0 : 0 ≤ ct) (hc : ct ≤ 800) : ∃ l' ct', ct ≤ ct' ∧ ct' ≤ ct + 60 ∧ qAll ns (Lg l ct) = .ok .next (Lg l' ct') := by
  obtain ⟨row, c1, hr, b1, b2, e1⟩ := q1_ok ns l ct h0 h1 hc0 (by omega)
  obtain ⟨a, ha, e7⟩ := q7_ok ns l row c1 h0 h1 (by omega) (by omega) hr
  let B : LS := { L1 l row with s7 := .dat (eN a) }
  obtain ⟨m, hm, e9⟩ := q9_ok ns B (c1 + 1) h0 h1 (by omega) (by omega)
  have hb := sz_bounds hm
  let c2 : Int := c1 + 1 + 2
  have hc2 : c2 = c1 + 1 + 2 := rfl
  obtain ⟨c, hcc, e14⟩ := q14_ok ns B m c2 h0 h1 (by omega) (by omega) hm
  let C : LS := L3 (K8 B m) m c
  obtain ⟨n, n1, n2, e19⟩ := q19_ok ns C (c2 + 1) h0 h1 (by omega) (by omega)
  obtain ⟨d, d1, d2, e20⟩ := q20_ok ns C n (c2 + 1 + 1) h0 h1 (by omega) (by omega) n1 n2
  let c3 : Int := c2 + 1 + 1 + 2
  have hc3 : c3 = c2 + 1 + 1 + 2 := rfl
  let F : LS := L4 C n d
  obtain ⟨y, e24⟩ := q24_ok ns F n c3 n1 n2
  have e25 := q25_ok ns F n y c3 n1 n2
  have e27 := q27_ok ns F m n c3 hm rfl n1 n2
  refine ⟨{ L5 F n with s18 := .dat (eT wideL) }, c3, by omega, by omega, ?_⟩
  refine ev_next e1 ((q234_ok ns l row c1 hr _).trans ?_)
  refine ev_next (q5_ok ns l row c1 hr) (ev_next (q6_ok ns l row c1 hr) (ev_next e7 (ev_next (q8_ok ns l row a (c1 + 1) hr ha) (ev_next e9 ?_))))
  refine ev_next (q10_ok ns B m c2 hm) (ev_next (q11_ok ns B m c2 hm) (ev_next (q12_ok ns B m c2 hm) (ev_next (q13_ok ns B m c2 hm) (ev_next e14 ?_))))
  refine ev_next (q15_ok ns B m c (c2 + 1) hm) (ev_next (q16_ok ns B m c (c2 + 1) (by omega) (by omega)) (ev_next (q17_ok ns B m c (c2 + 1) hm) (ev_next (q18_ok ns B m c (c2 + 1) hm) (ev_next e19 (ev_next e20 ?_)))))
  refine ev_next (q21_ok ns C n d c3 n1 n2 d1 d2) (ev_next (q22_ok ns C n d c3 n1 n2 d1 d2) (ev_next (g1 := Lg { F with s14 := .dat (eN n), s15 := .dat (.int 1) } c3) rfl (ev_next e24 (ev_next e25 ?_))))
  exact ev_next (q26_ok ns F n c3 n1 n2) (ev_next e27 (ev_next (q28_ok ns (L5 F n) c3) (ev_next (q29_ok ns (L5 F n) c3) (ev_next (q30_ok ns (L5 F n) c3) (ev_next (q31_ok ns (L5 F n) c3) rfl)))))
theorem lawOk : LawOk (N_law.length - 2) m_law := by
  intro ns h0 h1
  let l0 : LS := ⟨.no, .no, .no, .no, .no, .no, .no, .no, .no, .no, .no, .no, .no, .no, .no, .no⟩
  obtain ⟨g', hf, l, ct, hg, hc0, hc⟩ := forM_rel (k := putM 2) (body := qAll ns) (enc := PyData.int) (fun r g => ∃ (l : LS) (ct : Int), g = Lg l ct ∧ 0 ≤ ct ∧ ct + 60 * r.length ≤ 300) (fun x r g hI => by
      obtain ⟨l, ct, rfl, hc0, hc⟩ := hI
      rw [List.length_cons] at hc
      obtain ⟨l', ct', h2, h3, hgo⟩ := turn_ok ns h0 h1 { l with s2 := .dat (.int x) } ct hc0 (by omega)
      exact ⟨Lg l' ct', ev_go (g1 := Lg { l with s2 := .dat (.int x) } ct) rfl hgo, l', ct', rfl, by omega, by omega⟩) (rngI 0 5) (Lg l0 0) ⟨l0, 0, rfl, Int.le_refl 0, by rw [rngI5]; decide⟩
  subst hg
  refine ⟨Lg l ct, ?_⟩
  rw [m_law_is]
  have ef : (forS (srcA rng1 (consM (pureM (.int 5)) (pureM []))) (putM 2) (qAll ns)) (Lg l0 0) = .ok .next (Lg l ct) := ev_for (g1 := Lg l0 0) (xs := (rngI 0 5).map PyData.int) (ev_srcA (ds := [.int 5]) rfl (rng1_i 5 (by decide) (by decide))) hf
  have et : (tupM (consM (pureM (.int 40)) (consM (pureM (.int 7)) (consM (pureM (.int 1000000)) (pureM []))))) (Lg l ct) = .ok (eT [40, 7, 1000000]) (Lg l ct) := ev_tup (ds := [.int 40, .int 7, .int 1000000]) rfl (size_le 3 (by decide))
  have ee : eqD (eT [40, 7, 1000000]) (eT [40, 7, 1000000]) = some (.bool true) := by
    rw [eq_T]
    rfl
  exact ev_next ef (ev_stop (ev_ret (ev_op2 et et ee)) (fun z => nomatch z))
end K50

set_option Elab.async false
set_option linter.all false
set_option maxRecDepth 100000
set_option maxHeartbeats 4000000
namespace K50
open PySem PySem.Spec L2 DL
theorem streamOk : StreamOk m_cell m_srest := DL.streamOk
end K50


namespace K50
open PySem PySem.Spec L2 StX DL
open PyProof.Rows hiding St
theorem all_mk {P : Program} {w : World} {K : PySem.W.Frag} {h : Heap} {mg : Str → Option Value} {fa f_check_numbers f_known_steps f_steps_on f_messages f_rounds_to_know f_check_many f_most_messages f_fewest_messages f_lowest f_mean_messages f_all_orders f_orders_with f_spread_of f_built f_ring_with f_known_rounds f_left_by_rounds f_rounds_of_two f_most_rounds f_stops_at f_L_same f_L_error f_L_stream f_L_next f_L_told f_L_steps f_L_all f_L_rounds f_L_terms f_L_drawn f_law C_NetError C_NotAllowed C_TooLarge C_Missing C_BadPaper C_BadForm : Addr}
    {od_check_numbers an_check_numbers od_known_steps an_known_steps od_steps_on an_steps_on od_messages an_messages od_rounds_to_know an_rounds_to_know od_check_many an_check_many od_most_messages an_most_messages od_fewest_messages an_fewest_messages od_lowest an_lowest od_mean_messages an_mean_messages od_all_orders an_all_orders od_orders_with an_orders_with od_spread_of an_spread_of od_built an_built od_ring_with an_ring_with od_known_rounds an_known_rounds od_left_by_rounds an_left_by_rounds od_rounds_of_two an_rounds_of_two od_most_rounds an_most_rounds od_stops_at an_stops_at od_L_same an_L_same od_L_error an_L_error od_L_stream an_L_stream od_L_next an_L_next od_L_told an_L_told od_L_steps an_L_steps od_L_all an_L_all od_L_rounds an_L_rounds od_L_terms an_L_terms od_L_drawn an_L_drawn od_law an_law : Option Addr} {sl_check_numbers sl_known_steps sl_steps_on sl_messages sl_rounds_to_know sl_check_many sl_most_messages sl_fewest_messages sl_lowest sl_mean_messages sl_all_orders sl_orders_with sl_spread_of sl_built sl_ring_with sl_known_rounds sl_left_by_rounds sl_rounds_of_two sl_most_rounds sl_stops_at sl_L_same sl_L_error sl_L_stream sl_L_next sl_L_told sl_L_steps sl_L_all sl_L_rounds sl_L_terms sl_L_drawn sl_law : Array (Option Value)} {oc_check_numbers kV_check_numbers dc_check_numbers pm_check_numbers cd_check_numbers ct_check_numbers oc_known_steps kV_known_steps dc_known_steps pm_known_steps cd_known_steps ct_known_steps oc_steps_on kV_steps_on dc_steps_on pm_steps_on cd_steps_on ct_steps_on oc_messages kV_messages dc_messages pm_messages cd_messages ct_messages oc_rounds_to_know kV_rounds_to_know dc_rounds_to_know pm_rounds_to_know cd_rounds_to_know ct_rounds_to_know oc_check_many kV_check_many dc_check_many pm_check_many cd_check_many ct_check_many oc_most_messages kV_most_messages dc_most_messages pm_most_messages cd_most_messages ct_most_messages oc_fewest_messages kV_fewest_messages dc_fewest_messages pm_fewest_messages cd_fewest_messages ct_fewest_messages oc_lowest kV_lowest dc_lowest pm_lowest cd_lowest ct_lowest oc_mean_messages kV_mean_messages dc_mean_messages pm_mean_messages cd_mean_messages ct_mean_messages oc_all_orders kV_all_orders dc_all_orders pm_all_orders cd_all_orders ct_all_orders oc_orders_with kV_orders_with dc_orders_with pm_orders_with cd_orders_with ct_orders_with oc_spread_of kV_spread_of dc_spread_of pm_spread_of cd_spread_of ct_spread_of oc_built kV_built dc_built pm_built cd_built ct_built oc_ring_with kV_ring_with dc_ring_with pm_ring_with cd_ring_with ct_ring_with oc_known_rounds kV_known_rounds dc_known_rounds pm_known_rounds cd_known_rounds ct_known_rounds oc_left_by_rounds kV_left_by_rounds dc_left_by_rounds pm_left_by_rounds cd_left_by_rounds ct_left_by_rounds oc_rounds_of_two kV_rounds_of_two dc_rounds_of_two pm_rounds_of_two cd_rounds_of_two ct_rounds_of_two oc_most_rounds kV_most_rounds dc_most_rounds pm_most_rounds cd_most_rounds ct_most_rounds oc_stops_at kV_stops_at dc_stops_at pm_stops_at cd_stops_at ct_stops_at oc_L_same kV_L_same dc_L_same pm_L_same cd_L_same ct_L_same oc_L_error kV_L_error dc_L_error pm_L_error cd_L_error ct_L_error oc_L_stream kV_L_stream dc_L_stream pm_L_stream cd_L_stream ct_L_stream oc_L_next kV_L_next dc_L_next pm_L_next cd_L_next ct_L_next oc_L_told kV_L_told dc_L_told pm_L_told cd_L_told ct_L_told oc_L_steps kV_L_steps dc_L_steps pm_L_steps cd_L_steps ct_L_steps oc_L_all kV_L_all dc_L_all pm_L_all cd_L_all ct_L_all oc_L_rounds kV_L_rounds dc_L_rounds pm_L_rounds cd_L_rounds ct_L_rounds oc_L_terms kV_L_terms dc_L_terms pm_L_terms cd_L_terms ct_L_terms oc_L_drawn kV_L_drawn dc_L_drawn pm_L_drawn cd_L_drawn ct_L_drawn oc_law kV_law dc_law pm_law cd_law ct_law : Value} {t_MAX_ALL t_MAX_RING t_MAX_VALUE : Tok} (X : K.In h) (G : h.Ns mainGlobals mg) (hfa : mg "law" = some (.ref fa))
    (a_check_numbers : PySem.W.nsIn K mainGlobals "check_numbers" = some (some (.ref f_check_numbers)))
    (l_check_numbers : K.lookup f_check_numbers = some ⟨oc_check_numbers, od_check_numbers, .func (PySem.W.fnOf "check_numbers" "check_numbers" (defArgs s_check_numbers) (defBody s_check_numbers) (defScope s_check_numbers) .none kV_check_numbers dc_check_numbers pm_check_numbers an_check_numbers cd_check_numbers ct_check_numbers), sl_check_numbers⟩)
    (c_check_numbers : PySem.W.codeIn K cd_check_numbers "check_numbers" = true)
    (k_check_numbers : PySem.W.keepIn K (.ref f_check_numbers) = true)
    (a_known_steps : PySem.W.nsIn K mainGlobals "known_steps" = some (some (.ref f_known_steps)))
    (l_known_steps : K.lookup f_known_steps = some ⟨oc_known_steps, od_known_steps, .func (PySem.W.fnOf "known_steps" "known_steps" (defArgs s_known_steps) (defBody s_known_steps) (defScope s_known_steps) .none kV_known_steps dc_known_steps pm_known_steps an_known_steps cd_known_steps ct_known_steps), sl_known_steps⟩)
    (c_known_steps : PySem.W.codeIn K cd_known_steps "known_steps" = true)
    (k_known_steps : PySem.W.keepIn K (.ref f_known_steps) = true)
    (a_steps_on : PySem.W.nsIn K mainGlobals "steps_on" = some (some (.ref f_steps_on)))
    (l_steps_on : K.lookup f_steps_on = some ⟨oc_steps_on, od_steps_on, .func (PySem.W.fnOf "steps_on" "steps_on" (defArgs s_steps_on) (defBody s_steps_on) (defScope s_steps_on) .none kV_steps_on dc_steps_on pm_steps_on an_steps_on cd_steps_on ct_steps_on), sl_steps_on⟩)
    (c_steps_on : PySem.W.codeIn K cd_steps_on "steps_on" = true)
    (k_steps_on : PySem.W.keepIn K (.ref f_steps_on) = true)
    (a_messages : PySem.W.nsIn K mainGlobals "messages" = some (some (.ref f_messages)))
    (l_messages : K.lookup f_messages = some ⟨oc_messages, od_messages, .func (PySem.W.fnOf "messages" "messages" (defArgs s_messages) (defBody s_messages) (defScope s_messages) .none kV_messages dc_messages pm_messages an_messages cd_messages ct_messages), sl_messages⟩)
    (c_messages : PySem.W.codeIn K cd_messages "messages" = true)
    (k_messages : PySem.W.keepIn K (.ref f_messages) = true)
    (a_rounds_to_know : PySem.W.nsIn K mainGlobals "rounds_to_know" = some (some (.ref f_rounds_to_know)))
    (l_rounds_to_know : K.lookup f_rounds_to_know = some ⟨oc_rounds_to_know, od_rounds_to_know, .func (PySem.W.fnOf "rounds_to_know" "rounds_to_know" (defArgs s_rounds_to_know) (defBody s_rounds_to_know) (defScope s_rounds_to_know) .none kV_rounds_to_know dc_rounds_to_know pm_rounds_to_know an_rounds_to_know cd_rounds_to_know ct_rounds_to_know), sl_rounds_to_know⟩)
    (c_rounds_to_know : PySem.W.codeIn K cd_rounds_to_know "rounds_to_know" = true)
    (k_rounds_to_know : PySem.W.keepIn K (.ref f_rounds_to_know) = true)
    (a_check_many : PySem.W.nsIn K mainGlobals "check_many" = some (some (.ref f_check_many)))
    (l_check_many : K.lookup f_check_many = some ⟨oc_check_many, od_check_many, .func (PySem.W.fnOf "check_many" "check_many" (defArgs s_check_many) (defBody s_check_many) (defScope s_check_many) .none kV_check_many dc_check_many pm_check_many an_check_many cd_check_many ct_check_many), sl_check_many⟩)
    (c_check_many : PySem.W.codeIn K cd_check_many "check_many" = true)
    (k_check_many : PySem.W.keepIn K (.ref f_check_many) = true)
    (a_most_messages : PySem.W.nsIn K mainGlobals "most_messages" = some (some (.ref f_most_messages)))
    (l_most_messages : K.lookup f_most_messages = some ⟨oc_most_messages, od_most_messages, .func (PySem.W.fnOf "most_messages" "most_messages" (defArgs s_most_messages) (defBody s_most_messages) (defScope s_most_messages) .none kV_most_messages dc_most_messages pm_most_messages an_most_messages cd_most_messages ct_most_messages), sl_most_messages⟩)
    (c_most_messages : PySem.W.codeIn K cd_most_messages "most_messages" = true)
    (k_most_messages : PySem.W.keepIn K (.ref f_most_messages) = true)
    (a_fewest_messages : PySem.W.nsIn K mainGlobals "fewest_messages" = some (some (.ref f_fewest_messages)))
    (l_fewest_messages : K.lookup f_fewest_messages = some ⟨oc_fewest_messages, od_fewest_messages, .func (PySem.W.fnOf "fewest_messages" "fewest_messages" (defArgs s_fewest_messages) (defBody s_fewest_messages) (defScope s_fewest_messages) .none kV_fewest_messages dc_fewest_messages pm_fewest_messages an_fewest_messages cd_fewest_messages ct_fewest_messages), sl_fewest_messages⟩)
    (c_fewest_messages : PySem.W.codeIn K cd_fewest_messages "fewest_messages" = true)
    (k_fewest_messages : PySem.W.keepIn K (.ref f_fewest_messages) = true)
    (a_lowest : PySem.W.nsIn K mainGlobals "lowest" = some (some (.ref f_lowest)))
    (l_lowest : K.lookup f_lowest = some ⟨oc_lowest, od_lowest, .func (PySem.W.fnOf "lowest" "lowest" (defArgs s_lowest) (defBody s_lowest) (defScope s_lowest) .none kV_lowest dc_lowest pm_lowest an_lowest cd_lowest ct_lowest), sl_lowest⟩)
    (c_lowest : PySem.W.codeIn K cd_lowest "lowest" = true)
    (k_lowest : PySem.W.keepIn K (.ref f_lowest) = true)
    (a_mean_messages : PySem.W.nsIn K mainGlobals "mean_messages" = some (some (.ref f_mean_messages)))
    (l_mean_messages : K.lookup f_mean_messages = some ⟨oc_mean_messages, od_mean_messages, .func (PySem.W.fnOf "mean_messages" "mean_messages" (defArgs s_mean_messages) (defBody s_mean_messages) (defScope s_mean_messages) .none kV_mean_messages dc_mean_messages pm_mean_messages an_mean_messages cd_mean_messages ct_mean_messages), sl_mean_messages⟩)
    (c_mean_messages : PySem.W.codeIn K cd_mean_messages "mean_messages" = true)
    (k_mean_messages : PySem.W.keepIn K (.ref f_mean_messages) = true)
    (a_all_orders : PySem.W.nsIn K mainGlobals "all_orders" = some (some (.ref f_all_orders)))
    (l_all_orders : K.lookup f_all_orders = some ⟨oc_all_orders, od_all_orders, .func (PySem.W.fnOf "all_orders" "all_orders" (defArgs s_all_orders) (defBody s_all_orders) (defScope s_all_orders) .none kV_all_orders dc_all_orders pm_all_orders an_all_orders cd_all_orders ct_all_orders), sl_all_orders⟩)
    (c_all_orders : PySem.W.codeIn K cd_all_orders "all_orders" = true)
    (k_all_orders : PySem.W.keepIn K (.ref f_all_orders) = true)
    (a_orders_with : PySem.W.nsIn K mainGlobals "orders_with" = some (some (.ref f_orders_with)))
    (l_orders_with : K.lookup f_orders_with = some ⟨oc_orders_with, od_orders_with, .func (PySem.W.fnOf "orders_with" "orders_with" (defArgs s_orders_with) (defBody s_orders_with) (defScope s_orders_with) .none kV_orders_with dc_orders_with pm_orders_with an_orders_with cd_orders_with ct_orders_with), sl_orders_with⟩)
    (c_orders_with : PySem.W.codeIn K cd_orders_with "orders_with" = true)
    (k_orders_with : PySem.W.keepIn K (.ref f_orders_with) = true)
    (a_spread_of : PySem.W.nsIn K mainGlobals "spread_of" = some (some (.ref f_spread_of)))
    (l_spread_of : K.lookup f_spread_of = some ⟨oc_spread_of, od_spread_of, .func (PySem.W.fnOf "spread_of" "spread_of" (defArgs s_spread_of) (defBody s_spread_of) (defScope s_spread_of) .none kV_spread_of dc_spread_of pm_spread_of an_spread_of cd_spread_of ct_spread_of), sl_spread_of⟩)
    (c_spread_of : PySem.W.codeIn K cd_spread_of "spread_of" = true)
    (k_spread_of : PySem.W.keepIn K (.ref f_spread_of) = true)
    (a_built : PySem.W.nsIn K mainGlobals "built" = some (some (.ref f_built)))
    (l_built : K.lookup f_built = some ⟨oc_built, od_built, .func (PySem.W.fnOf "built" "built" (defArgs s_built) (defBody s_built) (defScope s_built) .none kV_built dc_built pm_built an_built cd_built ct_built), sl_built⟩)
    (c_built : PySem.W.codeIn K cd_built "built" = true)
    (k_built : PySem.W.keepIn K (.ref f_built) = true)
    (a_ring_with : PySem.W.nsIn K mainGlobals "ring_with" = some (some (.ref f_ring_with)))
    (l_ring_with : K.lookup f_ring_with = some ⟨oc_ring_with, od_ring_with, .func (PySem.W.fnOf "ring_with" "ring_with" (defArgs s_ring_with) (defBody s_ring_with) (defScope s_ring_with) .none kV_ring_with dc_ring_with pm_ring_with an_ring_with cd_ring_with ct_ring_with), sl_ring_with⟩)
    (c_ring_with : PySem.W.codeIn K cd_ring_with "ring_with" = true)
    (k_ring_with : PySem.W.keepIn K (.ref f_ring_with) = true)
    (a_known_rounds : PySem.W.nsIn K mainGlobals "known_rounds" = some (some (.ref f_known_rounds)))
    (l_known_rounds : K.lookup f_known_rounds = some ⟨oc_known_rounds, od_known_rounds, .func (PySem.W.fnOf "known_rounds" "known_rounds" (defArgs s_known_rounds) (defBody s_known_rounds) (defScope s_known_rounds) .none kV_known_rounds dc_known_rounds pm_known_rounds an_known_rounds cd_known_rounds ct_known_rounds), sl_known_rounds⟩)
    (c_known_rounds : PySem.W.codeIn K cd_known_rounds "known_rounds" = true)
    (k_known_rounds : PySem.W.keepIn K (.ref f_known_rounds) = true)
    (a_left_by_rounds : PySem.W.nsIn K mainGlobals "left_by_rounds" = some (some (.ref f_left_by_rounds)))
    (l_left_by_rounds : K.lookup f_left_by_rounds = some ⟨oc_left_by_rounds, od_left_by_rounds, .func (PySem.W.fnOf "left_by_rounds" "left_by_rounds" (defArgs s_left_by_rounds) (defBody s_left_by_rounds) (defScope s_left_by_rounds) .none kV_left_by_rounds dc_left_by_rounds pm_left_by_rounds an_left_by_rounds cd_left_by_rounds ct_left_by_rounds), sl_left_by_rounds⟩)
    (c_left_by_rounds : PySem.W.codeIn K cd_left_by_rounds "left_by_rounds" = true)
    (k_left_by_rounds : PySem.W.keepIn K (.ref f_left_by_rounds) = true)
    (a_rounds_of_two : PySem.W.nsIn K mainGlobals "rounds_of_two" = some (some (.ref f_rounds_of_two)))
    (l_rounds_of_two : K.lookup f_rounds_of_two = some ⟨oc_rounds_of_two, od_rounds_of_two, .func (PySem.W.fnOf "rounds_of_two" "rounds_of_two" (defArgs s_rounds_of_two) (defBody s_rounds_of_two) (defScope s_rounds_of_two) .none kV_rounds_of_two dc_rounds_of_two pm_rounds_of_two an_rounds_of_two cd_rounds_of_two ct_rounds_of_two), sl_rounds_of_two⟩)
    (c_rounds_of_two : PySem.W.codeIn K cd_rounds_of_two "rounds_of_two" = true)
    (k_rounds_of_two : PySem.W.keepIn K (.ref f_rounds_of_two) = true)
    (a_most_rounds : PySem.W.nsIn K mainGlobals "most_rounds" = some (some (.ref f_most_rounds)))
    (l_most_rounds : K.lookup f_most_rounds = some ⟨oc_most_rounds, od_most_rounds, .func (PySem.W.fnOf "most_rounds" "most_rounds" (defArgs s_most_rounds) (defBody s_most_rounds) (defScope s_most_rounds) .none kV_most_rounds dc_most_rounds pm_most_rounds an_most_rounds cd_most_rounds ct_most_rounds), sl_most_rounds⟩)
    (c_most_rounds : PySem.W.codeIn K cd_most_rounds "most_rounds" = true)
    (k_most_rounds : PySem.W.keepIn K (.ref f_most_rounds) = true)
    (a_stops_at : PySem.W.nsIn K mainGlobals "stops_at" = some (some (.ref f_stops_at)))
    (l_stops_at : K.lookup f_stops_at = some ⟨oc_stops_at, od_stops_at, .func (PySem.W.fnOf "stops_at" "stops_at" (defArgs s_stops_at) (defBody s_stops_at) (defScope s_stops_at) .none kV_stops_at dc_stops_at pm_stops_at an_stops_at cd_stops_at ct_stops_at), sl_stops_at⟩)
    (c_stops_at : PySem.W.codeIn K cd_stops_at "stops_at" = true)
    (k_stops_at : PySem.W.keepIn K (.ref f_stops_at) = true)
    (a_L_same : PySem.W.nsIn K mainGlobals "_law_same" = some (some (.ref f_L_same)))
    (l_L_same : K.lookup f_L_same = some ⟨oc_L_same, od_L_same, .func (PySem.W.fnOf "_law_same" "_law_same" (defArgs s_L_same) (defBody s_L_same) (defScope s_L_same) .none kV_L_same dc_L_same pm_L_same an_L_same cd_L_same ct_L_same), sl_L_same⟩)
    (c_L_same : PySem.W.codeIn K cd_L_same "_law_same" = true)
    (k_L_same : PySem.W.keepIn K (.ref f_L_same) = true)
    (a_L_error : PySem.W.nsIn K mainGlobals "_law_error" = some (some (.ref f_L_error)))
    (l_L_error : K.lookup f_L_error = some ⟨oc_L_error, od_L_error, .func (PySem.W.fnOf "_law_error" "_law_error" (defArgs s_L_error) (defBody s_L_error) (defScope s_L_error) .none kV_L_error dc_L_error pm_L_error an_L_error cd_L_error ct_L_error), sl_L_error⟩)
    (c_L_error : PySem.W.codeIn K cd_L_error "_law_error" = true)
    (k_L_error : PySem.W.keepIn K (.ref f_L_error) = true)
    (a_L_stream : PySem.W.nsIn K mainGlobals "_law_stream" = some (some (.ref f_L_stream)))
    (l_L_stream : K.lookup f_L_stream = some ⟨oc_L_stream, od_L_stream, .func (PySem.W.fnOf "_law_stream" "_law_stream" (defArgs s_L_stream) (defBody s_L_stream) (defScope s_L_stream) .none kV_L_stream dc_L_stream pm_L_stream an_L_stream cd_L_stream ct_L_stream), sl_L_stream⟩)
    (c_L_stream : PySem.W.codeIn K cd_L_stream "_law_stream" = true)
    (k_L_stream : PySem.W.keepIn K (.ref f_L_stream) = true)
    (a_L_next : PySem.W.nsIn K mainGlobals "_law_next" = some (some (.ref f_L_next)))
    (l_L_next : K.lookup f_L_next = some ⟨oc_L_next, od_L_next, .func (PySem.W.fnOf "_law_next" "_law_next" (defArgs s_L_next) (defBody s_L_next) (defScope s_L_next) .none kV_L_next dc_L_next pm_L_next an_L_next cd_L_next ct_L_next), sl_L_next⟩)
    (c_L_next : PySem.W.codeIn K cd_L_next "_law_next" = true)
    (k_L_next : PySem.W.keepIn K (.ref f_L_next) = true)
    (a_L_told : PySem.W.nsIn K mainGlobals "_law_told" = some (some (.ref f_L_told)))
    (l_L_told : K.lookup f_L_told = some ⟨oc_L_told, od_L_told, .func (PySem.W.fnOf "_law_told" "_law_told" (defArgs s_L_told) (defBody s_L_told) (defScope s_L_told) .none kV_L_told dc_L_told pm_L_told an_L_told cd_L_told ct_L_told), sl_L_told⟩)
    (c_L_told : PySem.W.codeIn K cd_L_told "_law_told" = true)
    (k_L_told : PySem.W.keepIn K (.ref f_L_told) = true)
    (a_L_steps : PySem.W.nsIn K mainGlobals "_law_steps" = some (some (.ref f_L_steps)))
    (l_L_steps : K.lookup f_L_steps = some ⟨oc_L_steps, od_L_steps, .func (PySem.W.fnOf "_law_steps" "_law_steps" (defArgs s_L_steps) (defBody s_L_steps) (defScope s_L_steps) .none kV_L_steps dc_L_steps pm_L_steps an_L_steps cd_L_steps ct_L_steps), sl_L_steps⟩)
    (c_L_steps : PySem.W.codeIn K cd_L_steps "_law_steps" = true)
    (k_L_steps : PySem.W.keepIn K (.ref f_L_steps) = true)
    (a_L_all : PySem.W.nsIn K mainGlobals "_law_all" = some (some (.ref f_L_all)))
    (l_L_all : K.lookup f_L_all = some ⟨oc_L_all, od_L_all, .func (PySem.W.fnOf "_law_all" "_law_all" (defArgs s_L_all) (defBody s_L_all) (defScope s_L_all) .none kV_L_all dc_L_all pm_L_all an_L_all cd_L_all ct_L_all), sl_L_all⟩)
    (c_L_all : PySem.W.codeIn K cd_L_all "_law_all" = true)
    (k_L_all : PySem.W.keepIn K (.ref f_L_all) = true)
    (a_L_rounds : PySem.W.nsIn K mainGlobals "_law_rounds" = some (some (.ref f_L_rounds)))
    (l_L_rounds : K.lookup f_L_rounds = some ⟨oc_L_rounds, od_L_rounds, .func (PySem.W.fnOf "_law_rounds" "_law_rounds" (defArgs s_L_rounds) (defBody s_L_rounds) (defScope s_L_rounds) .none kV_L_rounds dc_L_rounds pm_L_rounds an_L_rounds cd_L_rounds ct_L_rounds), sl_L_rounds⟩)
    (c_L_rounds : PySem.W.codeIn K cd_L_rounds "_law_rounds" = true)
    (k_L_rounds : PySem.W.keepIn K (.ref f_L_rounds) = true)
    (a_L_terms : PySem.W.nsIn K mainGlobals "_law_terms" = some (some (.ref f_L_terms)))
    (l_L_terms : K.lookup f_L_terms = some ⟨oc_L_terms, od_L_terms, .func (PySem.W.fnOf "_law_terms" "_law_terms" (defArgs s_L_terms) (defBody s_L_terms) (defScope s_L_terms) .none kV_L_terms dc_L_terms pm_L_terms an_L_terms cd_L_terms ct_L_terms), sl_L_terms⟩)
    (c_L_terms : PySem.W.codeIn K cd_L_terms "_law_terms" = true)
    (k_L_terms : PySem.W.keepIn K (.ref f_L_terms) = true)
    (a_L_drawn : PySem.W.nsIn K mainGlobals "_law_drawn" = some (some (.ref f_L_drawn)))
    (l_L_drawn : K.lookup f_L_drawn = some ⟨oc_L_drawn, od_L_drawn, .func (PySem.W.fnOf "_law_drawn" "_law_drawn" (defArgs s_L_drawn) (defBody s_L_drawn) (defScope s_L_drawn) .none kV_L_drawn dc_L_drawn pm_L_drawn an_L_drawn cd_L_drawn ct_L_drawn), sl_L_drawn⟩)
    (c_L_drawn : PySem.W.codeIn K cd_L_drawn "_law_drawn" = true)
    (k_L_drawn : PySem.W.keepIn K (.ref f_L_drawn) = true)
    (a_law : PySem.W.nsIn K mainGlobals "law" = some (some (.ref f_law)))
    (l_law : K.lookup f_law = some ⟨oc_law, od_law, .func (PySem.W.fnOf "law" "law" (defArgs s_law) (defBody s_law) (defScope s_law) .none kV_law dc_law pm_law an_law cd_law ct_law), sl_law⟩)
    (c_law : PySem.W.codeIn K cd_law "law" = true)
    (k_law : PySem.W.keepIn K (.ref f_law) = true)
    (aC_NetError : PySem.W.nsIn K mainGlobals "NetError" = some (some (.ref C_NetError)))
    (aC_NotAllowed : PySem.W.nsIn K mainGlobals "NotAllowed" = some (some (.ref C_NotAllowed)))
    (aC_TooLarge : PySem.W.nsIn K mainGlobals "TooLarge" = some (some (.ref C_TooLarge)))
    (aC_Missing : PySem.W.nsIn K mainGlobals "Missing" = some (some (.ref C_Missing)))
    (aC_BadPaper : PySem.W.nsIn K mainGlobals "BadPaper" = some (some (.ref C_BadPaper)))
    (aC_BadForm : PySem.W.nsIn K mainGlobals "BadForm" = some (some (.ref C_BadForm)))
    (xC_NotAllowed : PySem.W.excIn K C_NotAllowed [.type "Exception", .type "BaseException", .type "object"] "Exception.__new__" = true)
    (kC_NotAllowed : PySem.W.keepIn K (.ref C_NotAllowed) = true)
    (bC_NotAllowed : PySem.W.subIn K (.ref C_NotAllowed) (.type "BaseException") = some true)
    (tC_NotAllowed : PySem.W.typeIn K (.ref C_NotAllowed) = some (.type "type"))
    (xC_TooLarge : PySem.W.excIn K C_TooLarge [.type "Exception", .type "BaseException", .type "object"] "Exception.__new__" = true)
    (kC_TooLarge : PySem.W.keepIn K (.ref C_TooLarge) = true)
    (bC_TooLarge : PySem.W.subIn K (.ref C_TooLarge) (.type "BaseException") = some true)
    (tC_TooLarge : PySem.W.typeIn K (.ref C_TooLarge) = some (.type "type"))
    (nb : PySem.W.subIn K (.ref C_NetError) (.type "BaseException") = some true)
    (nd : PySem.W.hasDictIn K C_NetError = true)
    (nt : PySem.W.typeIn K (.ref C_NetError) = some (.type "type"))
    (on : PySem.W.specialIn K (.builtin "object.__class__") "__get__" = some (some (.builtin "getset_descriptor.__get__")))
    (ot : PySem.W.takesIn K (.builtin "object.__class__") = some true)
    (eg_NotAllowed : PySem.W.findIn K (.ref C_NotAllowed) "__getattribute__" = some (some (.builtin "BaseException.__getattribute__")))
    (ek_NotAllowed : PySem.W.findIn K (.ref C_NotAllowed) "__getattr__" = some none)
    (es_NotAllowed : PySem.W.subIn K (.ref C_NotAllowed) (.type "BaseException") = some true)
    (ed_NotAllowed : PySem.W.hasDictIn K C_NotAllowed = true)
    (ea_NotAllowed : PySem.W.findIn K (.ref C_NotAllowed) "__class__" = some (some (.builtin "object.__class__")))
    (em_NotAllowed : PySem.W.mroIn K C_NotAllowed (.type "object") = some true)
    (en_NotAllowed : PySem.W.subIn K (.ref C_NotAllowed) (.ref C_NetError) = some true)
    (ke_NotAllowed_NotAllowed : PySem.W.subIn K (.ref C_NotAllowed) (.ref C_NotAllowed) = some true)
    (ke_NotAllowed_TooLarge : PySem.W.subIn K (.ref C_NotAllowed) (.ref C_TooLarge) = some false)
    (ke_NotAllowed_Missing : PySem.W.subIn K (.ref C_NotAllowed) (.ref C_Missing) = some false)
    (ke_NotAllowed_BadPaper : PySem.W.subIn K (.ref C_NotAllowed) (.ref C_BadPaper) = some false)
    (ke_NotAllowed_BadForm : PySem.W.subIn K (.ref C_NotAllowed) (.ref C_BadForm) = some false)
    (eg_TooLarge : PySem.W.findIn K (.ref C_TooLarge) "__getattribute__" = some (some (.builtin "BaseException.__getattribute__")))
    (ek_TooLarge : PySem.W.findIn K (.ref C_TooLarge) "__getattr__" = some none)
    (es_TooLarge : PySem.W.subIn K (.ref C_TooLarge) (.type "BaseException") = some true)
    (ed_TooLarge : PySem.W.hasDictIn K C_TooLarge = true)
    (ea_TooLarge : PySem.W.findIn K (.ref C_TooLarge) "__class__" = some (some (.builtin "object.__class__")))
    (em_TooLarge : PySem.W.mroIn K C_TooLarge (.type "object") = some true)
    (en_TooLarge : PySem.W.subIn K (.ref C_TooLarge) (.ref C_NetError) = some true)
    (ke_TooLarge_NotAllowed : PySem.W.subIn K (.ref C_TooLarge) (.ref C_NotAllowed) = some false)
    (ke_TooLarge_TooLarge : PySem.W.subIn K (.ref C_TooLarge) (.ref C_TooLarge) = some true)
    (ke_TooLarge_Missing : PySem.W.subIn K (.ref C_TooLarge) (.ref C_Missing) = some false)
    (ke_TooLarge_BadPaper : PySem.W.subIn K (.ref C_TooLarge) (.ref C_BadPaper) = some false)
    (ke_TooLarge_BadForm : PySem.W.subIn K (.ref C_TooLarge) (.ref C_BadForm) = some false)
    (eg_Missing : PySem.W.findIn K (.ref C_Missing) "__getattribute__" = some (some (.builtin "BaseException.__getattribute__")))
    (ek_Missing : PySem.W.findIn K (.ref C_Missing) "__getattr__" = some none)
    (es_Missing : PySem.W.subIn K (.ref C_Missing) (.type "BaseException") = some true)
    (ed_Missing : PySem.W.hasDictIn K C_Missing = true)
    (ea_Missing : PySem.W.findIn K (.ref C_Missing) "__class__" = some (some (.builtin "object.__class__")))
    (em_Missing : PySem.W.mroIn K C_Missing (.type "object") = some true)
    (en_Missing : PySem.W.subIn K (.ref C_Missing) (.ref C_NetError) = some true)
    (ke_Missing_NotAllowed : PySem.W.subIn K (.ref C_Missing) (.ref C_NotAllowed) = some false)
    (ke_Missing_TooLarge : PySem.W.subIn K (.ref C_Missing) (.ref C_TooLarge) = some false)
    (ke_Missing_Missing : PySem.W.subIn K (.ref C_Missing) (.ref C_Missing) = some true)
    (ke_Missing_BadPaper : PySem.W.subIn K (.ref C_Missing) (.ref C_BadPaper) = some false)
    (ke_Missing_BadForm : PySem.W.subIn K (.ref C_Missing) (.ref C_BadForm) = some false)
    (eg_BadPaper : PySem.W.findIn K (.ref C_BadPaper) "__getattribute__" = some (some (.builtin "BaseException.__getattribute__")))
    (ek_BadPaper : PySem.W.findIn K (.ref C_BadPaper) "__getattr__" = some none)
    (es_BadPaper : PySem.W.subIn K (.ref C_BadPaper) (.type "BaseException") = some true)
    (ed_BadPaper : PySem.W.hasDictIn K C_BadPaper = true)
    (ea_BadPaper : PySem.W.findIn K (.ref C_BadPaper) "__class__" = some (some (.builtin "object.__class__")))
    (em_BadPaper : PySem.W.mroIn K C_BadPaper (.type "object") = some true)
    (en_BadPaper : PySem.W.subIn K (.ref C_BadPaper) (.ref C_NetError) = some true)
    (ke_BadPaper_NotAllowed : PySem.W.subIn K (.ref C_BadPaper) (.ref C_NotAllowed) = some false)
    (ke_BadPaper_TooLarge : PySem.W.subIn K (.ref C_BadPaper) (.ref C_TooLarge) = some false)
    (ke_BadPaper_Missing : PySem.W.subIn K (.ref C_BadPaper) (.ref C_Missing) = some false)
    (ke_BadPaper_BadPaper : PySem.W.subIn K (.ref C_BadPaper) (.ref C_BadPaper) = some true)
    (ke_BadPaper_BadForm : PySem.W.subIn K (.ref C_BadPaper) (.ref C_BadForm) = some false)
    (hd_NotAllowed : PySem.W.hasDictIn K C_NotAllowed = true)
    (ht_NotAllowed : PySem.W.typeIn K (.ref C_NotAllowed) = some (.type "type"))
    (hd_TooLarge : PySem.W.hasDictIn K C_TooLarge = true)
    (ht_TooLarge : PySem.W.typeIn K (.ref C_TooLarge) = some (.type "type"))
    (hd_Missing : PySem.W.hasDictIn K C_Missing = true)
    (ht_Missing : PySem.W.typeIn K (.ref C_Missing) = some (.type "type"))
    (hd_BadPaper : PySem.W.hasDictIn K C_BadPaper = true)
    (ht_BadPaper : PySem.W.typeIn K (.ref C_BadPaper) = some (.type "type"))
    (hd_BadForm : PySem.W.hasDictIn K C_BadForm = true)
    (ht_BadForm : PySem.W.typeIn K (.ref C_BadForm) = some (.type "type"))
    (z_abs : PySem.W.nsIn K mainGlobals "abs" = some none)
    (z_any : PySem.W.nsIn K mainGlobals "any" = some none)
    (z_enumerate : PySem.W.nsIn K mainGlobals "enumerate" = some none)
    (z_int : PySem.W.nsIn K mainGlobals "int" = some none)
    (z_isinstance : PySem.W.nsIn K mainGlobals "isinstance" = some none)
    (z_len : PySem.W.nsIn K mainGlobals "len" = some none)
    (z_list : PySem.W.nsIn K mainGlobals "list" = some none)
    (z_max : PySem.W.nsIn K mainGlobals "max" = some none)
    (z_min : PySem.W.nsIn K mainGlobals "min" = some none)
    (z_range : PySem.W.nsIn K mainGlobals "range" = some none)
    (z_repr : PySem.W.nsIn K mainGlobals "repr" = some none)
    (z_set : PySem.W.nsIn K mainGlobals "set" = some none)
    (z_sorted : PySem.W.nsIn K mainGlobals "sorted" = some none)
    (z_sum : PySem.W.nsIn K mainGlobals "sum" = some none)
    (z_tuple : PySem.W.nsIn K mainGlobals "tuple" = some none)
    (q_MAX_ALL : PySem.W.nsIn K mainGlobals "MAX_ALL" = some (some (.int 7 t_MAX_ALL)))
    (q_MAX_RING : PySem.W.nsIn K mainGlobals "MAX_RING" = some (some (.int 40 t_MAX_RING)))
    (q_MAX_VALUE : PySem.W.nsIn K mainGlobals "MAX_VALUE" = some (some (.int 1000000 t_MAX_VALUE))) :
    ∃ fd : FuncData, (∀ (s : Shared) (v : Value), BindsTo s fd ⟨[v], []⟩ [("script", v)]) ∧ ∀ base : Heap, K.In base → base.Ns mainGlobals mg → FnG P w K mg base 4 fa fd ["script"] (spLaw K) := by
  have e := hfa.symm.trans (PySem.W.mg_of X G a_law)
  cases e
  have T : Txt K mg := { n_abs := PySem.W.mg_none_of X G z_abs, n_any := PySem.W.mg_none_of X G z_any, n_enumerate := PySem.W.mg_none_of X G z_enumerate, n_int := PySem.W.mg_none_of X G z_int, n_isinstance := PySem.W.mg_none_of X G z_isinstance, n_len := PySem.W.mg_none_of X G z_len, n_list := PySem.W.mg_none_of X G z_list, n_max := PySem.W.mg_none_of X G z_max, n_min := PySem.W.mg_none_of X G z_min, n_range := PySem.W.mg_none_of X G z_range, n_repr := PySem.W.mg_none_of X G z_repr, n_set := PySem.W.mg_none_of X G z_set, n_sorted := PySem.W.mg_none_of X G z_sorted, n_sum := PySem.W.mg_none_of X G z_sum, n_tuple := PySem.W.mg_none_of X G z_tuple, c_MAX_ALL := ⟨_, PySem.W.mg_of X G q_MAX_ALL⟩, c_MAX_RING := ⟨_, PySem.W.mg_of X G q_MAX_RING⟩, c_MAX_VALUE := ⟨_, PySem.W.mg_of X G q_MAX_VALUE⟩, x_NotAllowed := ⟨_, PySem.W.mg_of X G aC_NotAllowed, xC_NotAllowed, kC_NotAllowed, bC_NotAllowed, tC_NotAllowed⟩, x_TooLarge := ⟨_, PySem.W.mg_of X G aC_TooLarge, xC_TooLarge, kC_TooLarge, bC_TooLarge, tC_TooLarge⟩ }
  have D_check_numbers : DefD K mg "check_numbers" s_check_numbers ["numbers"] := ⟨_, _, fun_mk l_check_numbers c_check_numbers k_check_numbers, PySem.W.mg_of X G a_check_numbers, k_check_numbers, (fun_mk l_check_numbers c_check_numbers k_check_numbers).binds fun _ _ _ _ _ _ us hl => match us, hl with | [_], _ => rfl⟩
  have D_known_steps : DefD K mg "known_steps" s_known_steps ["numbers"] := ⟨_, _, fun_mk l_known_steps c_known_steps k_known_steps, PySem.W.mg_of X G a_known_steps, k_known_steps, (fun_mk l_known_steps c_known_steps k_known_steps).binds fun _ _ _ _ _ _ us hl => match us, hl with | [_], _ => rfl⟩
  have D_steps_on : DefD K mg "steps_on" s_steps_on ["numbers"] := ⟨_, _, fun_mk l_steps_on c_steps_on k_steps_on, PySem.W.mg_of X G a_steps_on, k_steps_on, (fun_mk l_steps_on c_steps_on k_steps_on).binds fun _ _ _ _ _ _ us hl => match us, hl with | [_], _ => rfl⟩
  have D_messages : DefD K mg "messages" s_messages ["numbers"] := ⟨_, _, fun_mk l_messages c_messages k_messages, PySem.W.mg_of X G a_messages, k_messages, (fun_mk l_messages c_messages k_messages).binds fun _ _ _ _ _ _ us hl => match us, hl with | [_], _ => rfl⟩
  have D_rounds_to_know : DefD K mg "rounds_to_know" s_rounds_to_know ["numbers"] := ⟨_, _, fun_mk l_rounds_to_know c_rounds_to_know k_rounds_to_know, PySem.W.mg_of X G a_rounds_to_know, k_rounds_to_know, (fun_mk l_rounds_to_know c_rounds_to_know k_rounds_to_know).binds fun _ _ _ _ _ _ us hl => match us, hl with | [_], _ => rfl⟩
  have D_check_many : DefD K mg "check_many" s_check_many ["many", "most"] := ⟨_, _, fun_mk l_check_many c_check_many k_check_many, PySem.W.mg_of X G a_check_many, k_check_many, (fun_mk l_check_many c_check_many k_check_many).binds fun _ _ _ _ _ _ us hl => match us, hl with | [_, _], _ => rfl⟩
  have D_most_messages : DefD K mg "most_messages" s_most_messages ["many"] := ⟨_, _, fun_mk l_most_messages c_most_messages k_most_messages, PySem.W.mg_of X G a_most_messages, k_most_messages, (fun_mk l_most_messages c_most_messages k_most_messages).binds fun _ _ _ _ _ _ us hl => match us, hl with | [_], _ => rfl⟩
  have D_fewest_messages : DefD K mg "fewest_messages" s_fewest_messages ["many"] := ⟨_, _, fun_mk l_fewest_messages c_fewest_messages k_fewest_messages, PySem.W.mg_of X G a_fewest_messages, k_fewest_messages, (fun_mk l_fewest_messages c_fewest_messages k_fewest_messages).binds fun _ _ _ _ _ _ us hl => match us, hl with | [_], _ => rfl⟩
  have D_lowest : DefD K mg "lowest" s_lowest ["number", "part"] := ⟨_, _, fun_mk l_lowest c_lowest k_lowest, PySem.W.mg_of X G a_lowest, k_lowest, (fun_mk l_lowest c_lowest k_lowest).binds fun _ _ _ _ _ _ us hl => match us, hl with | [_, _], _ => rfl⟩
  have D_mean_messages : DefD K mg "mean_messages" s_mean_messages ["many"] := ⟨_, _, fun_mk l_mean_messages c_mean_messages k_mean_messages, PySem.W.mg_of X G a_mean_messages, k_mean_messages, (fun_mk l_mean_messages c_mean_messages k_mean_messages).binds fun _ _ _ _ _ _ us hl => match us, hl with | [_], _ => rfl⟩
  have D_all_orders : DefD K mg "all_orders" s_all_orders ["many"] := ⟨_, _, fun_mk l_all_orders c_all_orders k_all_orders, PySem.W.mg_of X G a_all_orders, k_all_orders, (fun_mk l_all_orders c_all_orders k_all_orders).binds fun _ _ _ _ _ _ us hl => match us, hl with | [_], _ => rfl⟩
  have D_orders_with : DefD K mg "orders_with" s_orders_with ["many", "count"] := ⟨_, _, fun_mk l_orders_with c_orders_with k_orders_with, PySem.W.mg_of X G a_orders_with, k_orders_with, (fun_mk l_orders_with c_orders_with k_orders_with).binds fun _ _ _ _ _ _ us hl => match us, hl with | [_, _], _ => rfl⟩
  have D_spread_of : DefD K mg "spread_of" s_spread_of ["many"] := ⟨_, _, fun_mk l_spread_of c_spread_of k_spread_of, PySem.W.mg_of X G a_spread_of, k_spread_of, (fun_mk l_spread_of c_spread_of k_spread_of).binds fun _ _ _ _ _ _ us hl => match us, hl with | [_], _ => rfl⟩
  have D_built : DefD K mg "built" s_built ["many", "count"] := ⟨_, _, fun_mk l_built c_built k_built, PySem.W.mg_of X G a_built, k_built, (fun_mk l_built c_built k_built).binds fun _ _ _ _ _ _ us hl => match us, hl with | [_, _], _ => rfl⟩
  have D_ring_with : DefD K mg "ring_with" s_ring_with ["many", "count"] := ⟨_, _, fun_mk l_ring_with c_ring_with k_ring_with, PySem.W.mg_of X G a_ring_with, k_ring_with, (fun_mk l_ring_with c_ring_with k_ring_with).binds fun _ _ _ _ _ _ us hl => match us, hl with | [_, _], _ => rfl⟩
  have D_known_rounds : DefD K mg "known_rounds" s_known_rounds ["numbers"] := ⟨_, _, fun_mk l_known_rounds c_known_rounds k_known_rounds, PySem.W.mg_of X G a_known_rounds, k_known_rounds, (fun_mk l_known_rounds c_known_rounds k_known_rounds).binds fun _ _ _ _ _ _ us hl => match us, hl with | [_], _ => rfl⟩
  have D_left_by_rounds : DefD K mg "left_by_rounds" s_left_by_rounds ["numbers"] := ⟨_, _, fun_mk l_left_by_rounds c_left_by_rounds k_left_by_rounds, PySem.W.mg_of X G a_left_by_rounds, k_left_by_rounds, (fun_mk l_left_by_rounds c_left_by_rounds k_left_by_rounds).binds fun _ _ _ _ _ _ us hl => match us, hl with | [_], _ => rfl⟩
  have D_rounds_of_two : DefD K mg "rounds_of_two" s_rounds_of_two ["numbers"] := ⟨_, _, fun_mk l_rounds_of_two c_rounds_of_two k_rounds_of_two, PySem.W.mg_of X G a_rounds_of_two, k_rounds_of_two, (fun_mk l_rounds_of_two c_rounds_of_two k_rounds_of_two).binds fun _ _ _ _ _ _ us hl => match us, hl with | [_], _ => rfl⟩
  have D_most_rounds : DefD K mg "most_rounds" s_most_rounds ["many"] := ⟨_, _, fun_mk l_most_rounds c_most_rounds k_most_rounds, PySem.W.mg_of X G a_most_rounds, k_most_rounds, (fun_mk l_most_rounds c_most_rounds k_most_rounds).binds fun _ _ _ _ _ _ us hl => match us, hl with | [_], _ => rfl⟩
  have D_stops_at : DefD K mg "stops_at" s_stops_at ["numbers", "at"] := ⟨_, _, fun_mk l_stops_at c_stops_at k_stops_at, PySem.W.mg_of X G a_stops_at, k_stops_at, (fun_mk l_stops_at c_stops_at k_stops_at).binds fun _ _ _ _ _ _ us hl => match us, hl with | [_, _], _ => rfl⟩
  have D_L_same : DefD K mg "_law_same" s_L_same ["told", "due"] := ⟨_, _, fun_mk l_L_same c_L_same k_L_same, PySem.W.mg_of X G a_L_same, k_L_same, (fun_mk l_L_same c_L_same k_L_same).binds fun _ _ _ _ _ _ us hl => match us, hl with | [_, _], _ => rfl⟩
  have D_L_error : DefD K mg "_law_error" s_L_error ["e"] := ⟨_, _, fun_mk l_L_error c_L_error k_L_error, PySem.W.mg_of X G a_L_error, k_L_error, (fun_mk l_L_error c_L_error k_L_error).binds fun _ _ _ _ _ _ us hl => match us, hl with | [_], _ => rfl⟩
  have D_L_stream : DefD K mg "_law_stream" s_L_stream ["script"] := ⟨_, _, fun_mk l_L_stream c_L_stream k_L_stream, PySem.W.mg_of X G a_L_stream, k_L_stream, (fun_mk l_L_stream c_L_stream k_L_stream).binds fun _ _ _ _ _ _ us hl => match us, hl with | [_], _ => rfl⟩
  have D_L_next : DefD K mg "_law_next" s_L_next ["state", "many"] := ⟨_, _, fun_mk l_L_next c_L_next k_L_next, PySem.W.mg_of X G a_L_next, k_L_next, (fun_mk l_L_next c_L_next k_L_next).binds fun _ _ _ _ _ _ us hl => match us, hl with | [_, _], _ => rfl⟩
  have D_L_told : DefD K mg "_law_told" s_L_told ["kind", "one", "two"] := ⟨_, _, fun_mk l_L_told c_L_told k_L_told, PySem.W.mg_of X G a_L_told, k_L_told, (fun_mk l_L_told c_L_told k_L_told).binds fun _ _ _ _ _ _ us hl => match us, hl with | [_, _, _], _ => rfl⟩
  have D_L_steps : DefD K mg "_law_steps" s_L_steps ["row"] := ⟨_, _, fun_mk l_L_steps c_L_steps k_L_steps, PySem.W.mg_of X G a_L_steps, k_L_steps, (fun_mk l_L_steps c_L_steps k_L_steps).binds fun _ _ _ _ _ _ us hl => match us, hl with | [_], _ => rfl⟩
  have D_L_all : DefD K mg "_law_all" s_L_all ["many"] := ⟨_, _, fun_mk l_L_all c_L_all k_L_all, PySem.W.mg_of X G a_L_all, k_L_all, (fun_mk l_L_all c_L_all k_L_all).binds fun _ _ _ _ _ _ us hl => match us, hl with | [_], _ => rfl⟩
  have D_L_rounds : DefD K mg "_law_rounds" s_L_rounds ["row"] := ⟨_, _, fun_mk l_L_rounds c_L_rounds k_L_rounds, PySem.W.mg_of X G a_L_rounds, k_L_rounds, (fun_mk l_L_rounds c_L_rounds k_L_rounds).binds fun _ _ _ _ _ _ us hl => match us, hl with | [_], _ => rfl⟩
  have D_L_terms : DefD K mg "_law_terms" s_L_terms ["number", "part"] := ⟨_, _, fun_mk l_L_terms c_L_terms k_L_terms, PySem.W.mg_of X G a_L_terms, k_L_terms, (fun_mk l_L_terms c_L_terms k_L_terms).binds fun _ _ _ _ _ _ us hl => match us, hl with | [_, _], _ => rfl⟩
  have D_L_drawn : DefD K mg "_law_drawn" s_L_drawn ["state"] := ⟨_, _, fun_mk l_L_drawn c_L_drawn k_L_drawn, PySem.W.mg_of X G a_L_drawn, k_L_drawn, (fun_mk l_L_drawn c_L_drawn k_L_drawn).binds fun _ _ _ _ _ _ us hl => match us, hl with | [_], _ => rfl⟩
  have EF : ErrF K mg := by
    obtain ⟨f, fd, F, g, k, b⟩ := D_L_error.ex
    exact ⟨f, fd, _, _, _, _, _, _, F, g, k, b, PySem.W.mg_of X G aC_NetError, ⟨PySem.W.mg_of X G aC_NotAllowed, PySem.W.mg_of X G aC_TooLarge, PySem.W.mg_of X G aC_Missing, PySem.W.mg_of X G aC_BadPaper, PySem.W.mg_of X G aC_BadForm⟩, ⟨⟨eg_NotAllowed, ek_NotAllowed, es_NotAllowed, ed_NotAllowed, ea_NotAllowed, on, ot, em_NotAllowed⟩, PySem.W.exm_ref nb nd nt en_NotAllowed, kitT hd_NotAllowed ht_NotAllowed ke_NotAllowed_NotAllowed, kitF ke_NotAllowed_NotAllowed hd_TooLarge ht_TooLarge ke_NotAllowed_TooLarge, kitF ke_NotAllowed_NotAllowed hd_Missing ht_Missing ke_NotAllowed_Missing, kitF ke_NotAllowed_NotAllowed hd_BadPaper ht_BadPaper ke_NotAllowed_BadPaper, kitF ke_NotAllowed_NotAllowed hd_BadForm ht_BadForm ke_NotAllowed_BadForm⟩, ⟨⟨eg_TooLarge, ek_TooLarge, es_TooLarge, ed_TooLarge, ea_TooLarge, on, ot, em_TooLarge⟩, PySem.W.exm_ref nb nd nt en_TooLarge, kitF ke_TooLarge_TooLarge hd_NotAllowed ht_NotAllowed ke_TooLarge_NotAllowed, kitT hd_TooLarge ht_TooLarge ke_TooLarge_TooLarge, kitF ke_TooLarge_TooLarge hd_Missing ht_Missing ke_TooLarge_Missing, kitF ke_TooLarge_TooLarge hd_BadPaper ht_BadPaper ke_TooLarge_BadPaper, kitF ke_TooLarge_TooLarge hd_BadForm ht_BadForm ke_TooLarge_BadForm⟩, ⟨⟨eg_Missing, ek_Missing, es_Missing, ed_Missing, ea_Missing, on, ot, em_Missing⟩, PySem.W.exm_ref nb nd nt en_Missing, kitF ke_Missing_Missing hd_NotAllowed ht_NotAllowed ke_Missing_NotAllowed, kitF ke_Missing_Missing hd_TooLarge ht_TooLarge ke_Missing_TooLarge, kitT hd_Missing ht_Missing ke_Missing_Missing, kitF ke_Missing_Missing hd_BadPaper ht_BadPaper ke_Missing_BadPaper, kitF ke_Missing_Missing hd_BadForm ht_BadForm ke_Missing_BadForm⟩, ⟨⟨eg_BadPaper, ek_BadPaper, es_BadPaper, ed_BadPaper, ea_BadPaper, on, ot, em_BadPaper⟩, PySem.W.exm_ref nb nd nt en_BadPaper, kitF ke_BadPaper_BadPaper hd_NotAllowed ht_NotAllowed ke_BadPaper_NotAllowed, kitF ke_BadPaper_BadPaper hd_TooLarge ht_TooLarge ke_BadPaper_TooLarge, kitF ke_BadPaper_BadPaper hd_Missing ht_Missing ke_BadPaper_Missing, kitT hd_BadPaper ht_BadPaper ke_BadPaper_BadPaper, kitF ke_BadPaper_BadPaper hd_BadForm ht_BadForm ke_BadPaper_BadForm⟩⟩
  refine ⟨PySem.W.fnOf "law" "law" (defArgs s_law) (defBody s_law) (defScope s_law) .none kV_law dc_law pm_law an_law cd_law ct_law, fun s v => .of_eq rfl, fun base _ _ => ?_⟩
  have c_err : ErrD P w K mg base 2 nmE := c_err_ok T EF
  have c_check_numbers := cal_check_numbers (P := P) (w := w) (base := base) T D_check_numbers 
  have c_known_steps := cal_known_steps (P := P) (w := w) (base := base) T D_known_steps 
  have c_steps_on := cal_steps_on (P := P) (w := w) (base := base) T D_steps_on c_known_steps c_check_numbers
  have c_messages := cal_messages (P := P) (w := w) (base := base) T D_messages c_known_steps c_check_numbers
  have c_rounds_to_know := cal_rounds_to_know (P := P) (w := w) (base := base) T D_rounds_to_know c_known_steps c_check_numbers
  have c_check_many := cal_check_many (P := P) (w := w) (base := base) T D_check_many 
  have c_most_messages := cal_most_messages (P := P) (w := w) (base := base) T D_most_messages c_check_many
  have c_fewest_messages := cal_fewest_messages (P := P) (w := w) (base := base) T D_fewest_messages c_check_many
  have c_lowest := cal_lowest (P := P) (w := w) (base := base) T D_lowest 
  have c_mean_messages := cal_mean_messages (P := P) (w := w) (base := base) T D_mean_messages c_lowest c_check_many
  have c_all_orders := cal_all_orders (P := P) (w := w) (base := base) T D_all_orders 
  have c_orders_with := cal_orders_with (P := P) (w := w) (base := base) T D_orders_with c_all_orders c_known_steps c_check_many
  have c_spread_of := cal_spread_of (P := P) (w := w) (base := base) T D_spread_of c_all_orders c_known_steps c_check_many
  have c_built := cal_built (P := P) (w := w) (base := base) T D_built 
  have c_ring_with := cal_ring_with (P := P) (w := w) (base := base) T D_ring_with c_built c_check_many
  have c_known_rounds := cal_known_rounds (P := P) (w := w) (base := base) T D_known_rounds 
  have c_left_by_rounds := cal_left_by_rounds (P := P) (w := w) (base := base) T D_left_by_rounds c_known_rounds c_check_numbers
  have c_rounds_of_two := cal_rounds_of_two (P := P) (w := w) (base := base) T D_rounds_of_two c_known_rounds c_check_numbers
  have c_most_rounds := cal_most_rounds (P := P) (w := w) (base := base) T D_most_rounds c_check_many
  have c_stops_at := cal_stops_at (P := P) (w := w) (base := base) T D_stops_at c_known_steps c_check_numbers
  have c_L_same := cal_L_same (P := P) (w := w) (base := base) T D_L_same 
  have str : StrD P w K mg base 1 := cal_L_stream T D_L_stream streamOk
  have c_L_next := cal_L_next (P := P) (w := w) (base := base) T D_L_next 
  have c_L_told := cal_L_told (P := P) (w := w) (base := base) T D_L_told c_orders_with c_ring_with c_stops_at c_most_messages c_fewest_messages c_mean_messages c_spread_of c_most_rounds c_steps_on c_messages c_rounds_to_know c_left_by_rounds c_rounds_of_two c_err
  have c_L_steps := cal_L_steps (P := P) (w := w) (base := base) T D_L_steps 
  have c_L_all := cal_L_all (P := P) (w := w) (base := base) T D_L_all 
  have c_L_rounds := cal_L_rounds (P := P) (w := w) (base := base) T D_L_rounds 
  have c_L_terms := cal_L_terms (P := P) (w := w) (base := base) T D_L_terms 
  have c_L_drawn := cal_L_drawn (P := P) (w := w) (base := base) T D_L_drawn c_L_next
  exact ok_law T (fun_mk l_law c_law k_law) str c_L_told c_L_all c_L_rounds c_L_same c_L_terms c_L_steps c_L_next c_L_drawn lawOk
end K50
open PySem PySem.W PyProof.Rows
set_option maxHeartbeats 0 in
theorem PySem.Challenge.cw_namelessnets_k50_whole_messages_on_rings_holds : PySem.Challenge.rw_namelessnets_k50_whole_messages_on_rings.Holds := by
  w_on; o_law; k_head; (case hw => w_witness2)
  k_fill
  refine DL.walkG (l := PySem.Challenge.rw_namelessnets_k50_whole_messages_on_rings) (n := 63) (k := 4) (x := "script") (sp := fun w => DL.spLaw _) rfl (by decide) rfl ⟨rfl, by decide, by decide⟩ (fun w h Y => PySem.W.kIn_of Y) ?F (fun _ _ a ns hl _ hS => ⟨a, ns, rfl, hS, hl, fun _ => rfl⟩)
  case F =>
    intro w mg fa h KX G hmg
    refine' K50.all_mk KX G hmg ?a_check_numbers ?l_check_numbers ?c_check_numbers ?k_check_numbers ?a_known_steps ?l_known_steps ?c_known_steps ?k_known_steps ?a_steps_on ?l_steps_on ?c_steps_on ?k_steps_on ?a_messages ?l_messages ?c_messages ?k_messages ?a_rounds_to_know ?l_rounds_to_know ?c_rounds_to_know ?k_rounds_to_know ?a_check_many ?l_check_many ?c_check_many ?k_check_many ?a_most_messages ?l_most_messages ?c_most_messages ?k_most_messages ?a_fewest_messages ?l_fewest_messages ?c_fewest_messages ?k_fewest_messages ?a_lowest ?l_lowest ?c_lowest ?k_lowest ?a_mean_messages ?l_mean_messages ?c_mean_messages ?k_mean_messages ?a_all_orders ?l_all_orders ?c_all_orders ?k_all_orders ?a_orders_with ?l_orders_with ?c_orders_with ?k_orders_with ?a_spread_of ?l_spread_of ?c_spread_of ?k_spread_of ?a_built ?l_built ?c_built ?k_built ?a_ring_with ?l_ring_with ?c_ring_with ?k_ring_with ?a_known_rounds ?l_known_rounds ?c_known_rounds ?k_known_rounds ?a_left_by_rounds ?l_left_by_rounds ?c_left_by_rounds ?k_left_by_rounds ?a_rounds_of_two ?l_rounds_of_two ?c_rounds_of_two ?k_rounds_of_two ?a_most_rounds ?l_most_rounds ?c_most_rounds ?k_most_rounds ?a_stops_at ?l_stops_at ?c_stops_at ?k_stops_at ?a_L_same ?l_L_same ?c_L_same ?k_L_same ?a_L_error ?l_L_error ?c_L_error ?k_L_error ?a_L_stream ?l_L_stream ?c_L_stream ?k_L_stream ?a_L_next ?l_L_next ?c_L_next ?k_L_next ?a_L_told ?l_L_told ?c_L_told ?k_L_told ?a_L_steps ?l_L_steps ?c_L_steps ?k_L_steps ?a_L_all ?l_L_all ?c_L_all ?k_L_all ?a_L_rounds ?l_L_rounds ?c_L_rounds ?k_L_rounds ?a_L_terms ?l_L_terms ?c_L_terms ?k_L_terms ?a_L_drawn ?l_L_drawn ?c_L_drawn ?k_L_drawn ?a_law ?l_law ?c_law ?k_law ?aC_NetError ?aC_NotAllowed ?aC_TooLarge ?aC_Missing ?aC_BadPaper ?aC_BadForm ?xC_NotAllowed ?kC_NotAllowed ?bC_NotAllowed ?tC_NotAllowed ?xC_TooLarge ?kC_TooLarge ?bC_TooLarge ?tC_TooLarge ?nb ?nd ?nt ?on ?ot ?eg_NotAllowed ?ek_NotAllowed ?es_NotAllowed ?ed_NotAllowed ?ea_NotAllowed ?em_NotAllowed ?en_NotAllowed ?ke_NotAllowed_NotAllowed ?ke_NotAllowed_TooLarge ?ke_NotAllowed_Missing ?ke_NotAllowed_BadPaper ?ke_NotAllowed_BadForm ?eg_TooLarge ?ek_TooLarge ?es_TooLarge ?ed_TooLarge ?ea_TooLarge ?em_TooLarge ?en_TooLarge ?ke_TooLarge_NotAllowed ?ke_TooLarge_TooLarge ?ke_TooLarge_Missing ?ke_TooLarge_BadPaper ?ke_TooLarge_BadForm ?eg_Missing ?ek_Missing ?es_Missing ?ed_Missing ?ea_Missing ?em_Missing ?en_Missing ?ke_Missing_NotAllowed ?ke_Missing_TooLarge ?ke_Missing_Missing ?ke_Missing_BadPaper ?ke_Missing_BadForm ?eg_BadPaper ?ek_BadPaper ?es_BadPaper ?ed_BadPaper ?ea_BadPaper ?em_BadPaper ?en_BadPaper ?ke_BadPaper_NotAllowed ?ke_BadPaper_TooLarge ?ke_BadPaper_Missing ?ke_BadPaper_BadPaper ?ke_BadPaper_BadForm ?hd_NotAllowed ?ht_NotAllowed ?hd_TooLarge ?ht_TooLarge ?hd_Missing ?ht_Missing ?hd_BadPaper ?ht_BadPaper ?hd_BadForm ?ht_BadForm ?z_abs ?z_any ?z_enumerate ?z_int ?z_isinstance ?z_len ?z_list ?z_max ?z_min ?z_range ?z_repr ?z_set ?z_sorted ?z_sum ?z_tuple ?q_MAX_ALL ?q_MAX_RING ?q_MAX_VALUE
    (case a_check_numbers => k_is)
    (case l_check_numbers => k_is)
    (case c_check_numbers => k_is)
    (case k_check_numbers => k_is)
    (case a_known_steps => k_is)
    (case l_known_steps => k_is)
    (case c_known_steps => k_is)
    (case k_known_steps => k_is)
    (case a_steps_on => k_is)
    (case l_steps_on => k_is)
    (case c_steps_on => k_is)
    (case k_steps_on => k_is)
    (case a_messages => k_is)
    (case l_messages => k_is)
    (case c_messages => k_is)
    (case k_messages => k_is)
    (case a_rounds_to_know => k_is)
    (case l_rounds_to_know => k_is)
    (case c_rounds_to_know => k_is)
    (case k_rounds_to_know => k_is)
    (case a_check_many => k_is)
    (case l_check_many => k_is)
    (case c_check_many => k_is)
    (case k_check_many => k_is)
    (case a_most_messages => k_is)
    (case l_most_messages => k_is)
    (case c_most_messages => k_is)
    (case k_most_messages => k_is)
    (case a_fewest_messages => k_is)
    (case l_fewest_messages => k_is)
    (case c_fewest_messages => k_is)
    (case k_fewest_messages => k_is)
    (case a_lowest => k_is)
    (case l_lowest => k_is)
    (case c_lowest => k_is)
    (case k_lowest => k_is)
    (case a_mean_messages => k_is)
    (case l_mean_messages => k_is)
    (case c_mean_messages => k_is)
    (case k_mean_messages => k_is)
    (case a_all_orders => k_is)
    (case l_all_orders => k_is)
    (case c_all_orders => k_is)
    (case k_all_orders => k_is)
    (case a_orders_with => k_is)
    (case l_orders_with => k_is)
    (case c_orders_with => k_is)
    (case k_orders_with => k_is)
    (case a_spread_of => k_is)
    (case l_spread_of => k_is)
    (case c_spread_of => k_is)
    (case k_spread_of => k_is)
    (case a_built => k_is)
    (case l_built => k_is)
    (case c_built => k_is)
    (case k_built => k_is)
    (case a_ring_with => k_is)
    (case l_ring_with => k_is)
    (case c_ring_with => k_is)
    (case k_ring_with => k_is)
    (case a_known_rounds => k_is)
    (case l_known_rounds => k_is)
    (case c_known_rounds => k_is)
    (case k_known_rounds => k_is)
    (case a_left_by_rounds => k_is)
    (case l_left_by_rounds => k_is)
    (case c_left_by_rounds => k_is)
    (case k_left_by_rounds => k_is)
    (case a_rounds_of_two => k_is)
    (case l_rounds_of_two => k_is)
    (case c_rounds_of_two => k_is)
    (case k_rounds_of_two => k_is)
    (case a_most_rounds => k_is)
    (case l_most_rounds => k_is)
    (case c_most_rounds => k_is)
    (case k_most_rounds => k_is)
    (case a_stops_at => k_is)
    (case l_stops_at => k_is)
    (case c_stops_at => k_is)
    (case k_stops_at => k_is)
    (case a_L_same => k_is)
    (case l_L_same => k_is)
    (case c_L_same => k_is)
    (case k_L_same => k_is)
    (case a_L_error => k_is)
    (case l_L_error => k_is)
    (case c_L_error => k_is)
    (case k_L_error => k_is)
    (case a_L_stream => k_is)
    (case l_L_stream => k_is)
    (case c_L_stream => k_is)
    (case k_L_stream => k_is)
    (case a_L_next => k_is)
    (case l_L_next => k_is)
    (case c_L_next => k_is)
    (case k_L_next => k_is)
    (case a_L_told => k_is)
    (case l_L_told => k_is)
    (case c_L_told => k_is)
    (case k_L_told => k_is)
    (case a_L_steps => k_is)
    (case l_L_steps => k_is)
    (case c_L_steps => k_is)
    (case k_L_steps => k_is)
    (case a_L_all => k_is)
    (case l_L_all => k_is)
    (case c_L_all => k_is)
    (case k_L_all => k_is)
    (case a_L_rounds => k_is)
    (case l_L_rounds => k_is)
    (case c_L_rounds => k_is)
    (case k_L_rounds => k_is)
    (case a_L_terms => k_is)
    (case l_L_terms => k_is)
    (case c_L_terms => k_is)
    (case k_L_terms => k_is)
    (case a_L_drawn => k_is)
    (case l_L_drawn => k_is)
    (case c_L_drawn => k_is)
    (case k_L_drawn => k_is)
    (case a_law => k_is)
    (case l_law => k_is)
    (case c_law => k_is)
    (case k_law => k_is)
    (case aC_NetError => k_is)
    (case aC_NotAllowed => k_is)
    (case aC_TooLarge => k_is)
    (case aC_Missing => k_is)
    (case aC_BadPaper => k_is)
    (case aC_BadForm => k_is)
    (case xC_NotAllowed => k_exc)
    (case kC_NotAllowed => k_is)
    (case bC_NotAllowed => k_is)
    (case tC_NotAllowed => k_is)
    (case xC_TooLarge => k_exc)
    (case kC_TooLarge => k_is)
    (case bC_TooLarge => k_is)
    (case tC_TooLarge => k_is)
    (case nb => k_is)
    (case nd => k_is)
    (case nt => k_is)
    (case on => k_is)
    (case ot => k_is)
    (case eg_NotAllowed => k_is)
    (case ek_NotAllowed => k_is)
    (case es_NotAllowed => k_is)
    (case ed_NotAllowed => k_is)
    (case ea_NotAllowed => k_is)
    (case em_NotAllowed => k_is)
    (case en_NotAllowed => k_is)
    (case ke_NotAllowed_NotAllowed => k_is)
    (case ke_NotAllowed_TooLarge => k_is)
    (case ke_NotAllowed_Missing => k_is)
    (case ke_NotAllowed_BadPaper => k_is)
    (case ke_NotAllowed_BadForm => k_is)
    (case eg_TooLarge => k_is)
    (case ek_TooLarge => k_is)
    (case es_TooLarge => k_is)
    (case ed_TooLarge => k_is)
    (case ea_TooLarge => k_is)
    (case em_TooLarge => k_is)
    (case en_TooLarge => k_is)
    (case ke_TooLarge_NotAllowed => k_is)
    (case ke_TooLarge_TooLarge => k_is)
    (case ke_TooLarge_Missing => k_is)
    (case ke_TooLarge_BadPaper => k_is)
    (case ke_TooLarge_BadForm => k_is)
    (case eg_Missing => k_is)
    (case ek_Missing => k_is)
    (case es_Missing => k_is)
    (case ed_Missing => k_is)
    (case ea_Missing => k_is)
    (case em_Missing => k_is)
    (case en_Missing => k_is)
    (case ke_Missing_NotAllowed => k_is)
    (case ke_Missing_TooLarge => k_is)
    (case ke_Missing_Missing => k_is)
    (case ke_Missing_BadPaper => k_is)
    (case ke_Missing_BadForm => k_is)
    (case eg_BadPaper => k_is)
    (case ek_BadPaper => k_is)
    (case es_BadPaper => k_is)
    (case ed_BadPaper => k_is)
    (case ea_BadPaper => k_is)
    (case em_BadPaper => k_is)
    (case en_BadPaper => k_is)
    (case ke_BadPaper_NotAllowed => k_is)
    (case ke_BadPaper_TooLarge => k_is)
    (case ke_BadPaper_Missing => k_is)
    (case ke_BadPaper_BadPaper => k_is)
    (case ke_BadPaper_BadForm => k_is)
    (case hd_NotAllowed => k_is)
    (case ht_NotAllowed => k_is)
    (case hd_TooLarge => k_is)
    (case ht_TooLarge => k_is)
    (case hd_Missing => k_is)
    (case ht_Missing => k_is)
    (case hd_BadPaper => k_is)
    (case ht_BadPaper => k_is)
    (case hd_BadForm => k_is)
    (case ht_BadForm => k_is)
    (case z_abs => k_is)
    (case z_any => k_is)
    (case z_enumerate => k_is)
    (case z_int => k_is)
    (case z_isinstance => k_is)
    (case z_len => k_is)
    (case z_list => k_is)
    (case z_max => k_is)
    (case z_min => k_is)
    (case z_range => k_is)
    (case z_repr => k_is)
    (case z_set => k_is)
    (case z_sorted => k_is)
    (case z_sum => k_is)
    (case z_tuple => k_is)
    (case q_MAX_ALL => k_is)
    (case q_MAX_RING => k_is)
    (case q_MAX_VALUE => k_is)

