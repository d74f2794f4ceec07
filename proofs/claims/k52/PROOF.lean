import PyProof.Rows.All
import Wide.All
import OpenK.AllK
import Wide.FinOn
import HandS.ForMost
import KE.KDictWalk
import KE.KeyNested
import KE.SortData
import HandS.TupAny
import HandS.Deep
import HandS.Flow
import PyProof.TupleOfStr
import KE.KDictCopyH
import HandS.Conv
import HandS.Walk
import HandS.Defaults
import HandS.List
import HandS.Exc
import HandS.Zip
import HandS.DictComp
import HandS.Words
import HandS.Ends
import PySem.Challenge.RW_talkbook_k52_lots_beside_one_another
set_option Elab.async false
set_option linter.all false
set_option maxRecDepth 100000
set_option maxHeartbeats 1000000
/-! Ir0: the data that values stand for, what stands frozen, what is owned by a slot. -/
namespace Tk
open PySem PySem.Spec L2

/-- data -/
inductive D where
  | non | bl (b : Bool) | int (i : Int) | str (s : Str)
  | tup (l : List D) | lst (l : List D) | dct (l : List (D × D))
  | ins (c : Nat) (fs : List (Str × D))
  /-- a list of ints that is read only: the script -/
  | scr (l : List Int)
  deriving Inhabited

/-- a key of a dict -/
def keyD : D → Option NestedKey
  | .non => some .none
  | .bl b => some (.num (if b then 1 else 0))
  | .int i => some (.num i)
  | .str s => some (.text s)
  | .tup l => (keysD l).map .tup
  | _ => none
where keysD : List D → Option (List NestedKey)
  | [] => some []
  | d :: r => match keyD d, keysD r with
    | some k, some ks => some (k :: ks)
    | _, _ => none

/-- what is given: the program, its world, the written part, the module's names, where the classes stand -/
structure Gm where
  P : Program
  w : World
  K : PySem.W.Frag
  mg : Str → Option Value
  base : Heap
  cl : Nat → Addr

/-- a dict at a, its entries as they stand -/
def dO (a : Addr) (es : Array DictEntry) (ep : Nat) : HO := .ext fun h => h.DictRaw a es ep ∧ (a == sysModules) = false ∧ es.size ≤ sizeLine
def D.isTup : D → Bool
  | .tup _ => true
  | _ => false
def hashD (w : World) (x : D) : Int := ((keyD x).map (NestedKey.hash w)).getD 0
/-- what the entries of a dict of data are: unlike keys, all of them tuples or none, their hashes -/
structure DOk (w : World) (es : Array DictEntry) (kvs : List (D × D)) : Prop where
  hash : es.toList.map (·.hash) = kvs.map fun p => hashD w p.1
  key : ∀ p ∈ kvs, ∃ k, keyD p.1 = some k ∧ k.depth ≤ 8
  nd : (kvs.map fun p => keyD p.1).Nodup
  kind : (∀ p ∈ kvs, p.1.isTup = true) ∨ ∀ p ∈ kvs, p.1.isTup = false

mutual
/-- the value stands for the datum, all of it in the heap G -/
inductive Rep (Γ : Gm) (G : Hp) : V → D → Prop
  | non : Rep Γ G .non .non
  | bl (b : Bool) : Rep Γ G (.bl b) (.bl b)
  | int (i : Int) : Rep Γ G (.int i) (.int i)
  | str (s : Str) : Rep Γ G (.str s) (.str s)
  | tup {a : Addr} {xs : List V} {ds : List D} : SqT Γ.K G a xs → RepAll Γ G xs ds → Rep Γ G (.ref a) (.tup ds)
  | lst {a : Addr} {xs : List V} {ds : List D} : G a = some (.lst xs) → RepAll Γ G xs ds → Rep Γ G (.ref a) (.lst ds)
  | scr {a : Addr} {l : List Int} : SqL Γ.K G a (l.map V.int) → Rep Γ G (.ref a) (.scr l)
  | dct {a : Addr} {es : Array DictEntry} {ep : Nat} {ks vs : List V} {kvs : List (D × D)} : G a = some (dO a es ep) → DOk Γ.w es kvs →
      Vals ks (es.toList.map (·.key)) → Vals vs (es.toList.map (·.val)) → RepAll Γ G ks (kvs.map (·.1)) → RepAll Γ G vs (kvs.map (·.2)) → Rep Γ G (.ref a) (.dct kvs)
  | ins {a dx : Addr} {c : Nat} {fs : List (Str × V)} {ds : List (Str × D)} : G a = some (.ins (Γ.cl c) dx fs) → fs.map (·.1) = ds.map (·.1) → RepAll Γ G (fs.map (·.2)) (ds.map (·.2)) → Rep Γ G (.ref a) (.ins c ds)
inductive RepAll (Γ : Gm) (G : Hp) : List V → List D → Prop
  | nil : RepAll Γ G [] []
  | cons {v : V} {vs : List V} {d : D} {ds : List D} : Rep Γ G v d → RepAll Γ G vs ds → RepAll Γ G (v :: vs) (d :: ds)
end

theorem same_sqT {K : PySem.W.Frag} {H H' : Hp} {a : Addr} {xs : List V} (e : Same H H') (h : SqT K H a xs) : SqT K H' a xs := by
  rcases h with (h | ⟨o, h⟩) | h
  · exact .inl (.inl (e _ _ h))
  · exact .inl (.inr ⟨o, e _ _ h⟩)
  · exact .inr h

section
variable {Γ : Gm} {G G' H H' : Hp}
mutual
theorem Rep.mono (e : Same G G') : ∀ (v : V) (d : D), Rep Γ G v d → Rep Γ G' v d
  | _, _, .non => .non
  | _, _, .bl b => .bl b
  | _, _, .int i => .int i
  | _, _, .str s => .str s
  | _, _, .tup h r => .tup (same_sqT e h) (RepAll.mono e _ _ r)
  | _, _, .lst h r => .lst (e _ _ h) (RepAll.mono e _ _ r)
  | _, _, .scr h => .scr (e.seq h)
  | _, _, .dct h s k v rk rv => .dct (e _ _ h) s k v (RepAll.mono e _ _ rk) (RepAll.mono e _ _ rv)
  | _, _, .ins h k r => .ins (e _ _ h) k (RepAll.mono e _ _ r)
theorem RepAll.mono (e : Same G G') : ∀ (vs : List V) (ds : List D), RepAll Γ G vs ds → RepAll Γ G' vs ds
  | _, _, .nil => .nil
  | _, _, .cons h t => .cons (Rep.mono e _ _ h) (RepAll.mono e _ _ t)
end
theorem RepAll.length : ∀ {vs : List V} {ds : List D}, RepAll Γ G vs ds → vs.length = ds.length
  | _, _, .nil => rfl
  | _, _, .cons _ t => by simp [RepAll.length t]
theorem RepAll.get : ∀ {vs : List V} {ds : List D} {i : Nat} {v : V}, RepAll Γ G vs ds → vs[i]? = some v → ∃ d, ds[i]? = some d ∧ Rep Γ G v d
  | _, _, _, _, .nil, e => by simp at e
  | _, _, 0, _, .cons h _, e => by simp at e; subst e; exact ⟨_, rfl, h⟩
  | _, _, i + 1, _, .cons _ t, e => by simpa using RepAll.get (i := i) t (by simpa using e)
theorem RepAll.getD : ∀ {vs : List V} {ds : List D} {i : Nat} {d : D}, RepAll Γ G vs ds → ds[i]? = some d → ∃ v, vs[i]? = some v ∧ Rep Γ G v d
  | _, _, _, _, .nil, e => by simp at e
  | _, _, 0, _, .cons h _, e => by simp at e; subst e; exact ⟨_, rfl, h⟩
  | _, _, i + 1, _, .cons _ t, e => by simpa using RepAll.getD (i := i) t (by simpa using e)
theorem RepAll.append : ∀ {vs ws : List V} {ds es : List D}, RepAll Γ G vs ds → RepAll Γ G ws es → RepAll Γ G (vs ++ ws) (ds ++ es)
  | _, _, _, _, .nil, h => h
  | _, _, _, _, .cons a t, h => .cons a (RepAll.append t h)
theorem RepAll.take : ∀ {vs : List V} {ds : List D} (n : Nat), RepAll Γ G vs ds → RepAll Γ G (vs.take n) (ds.take n)
  | _, _, 0, _ => by simpa using RepAll.nil
  | _, _, _ + 1, .nil => by simpa using RepAll.nil
  | _, _, n + 1, .cons a t => by simpa using RepAll.cons a (RepAll.take n t)
theorem RepAll.drop : ∀ {vs : List V} {ds : List D} (n : Nat), RepAll Γ G vs ds → RepAll Γ G (vs.drop n) (ds.drop n)
  | _, _, 0, h => h
  | _, _, _ + 1, .nil => by simpa using RepAll.nil
  | _, _, n + 1, .cons _ t => by simpa using RepAll.drop n t
theorem RepAll.set {v : V} {d : D} (h : Rep Γ G v d) : ∀ {vs : List V} {ds : List D} (n : Nat), RepAll Γ G vs ds → RepAll Γ G (vs.set n v) (ds.set n d)
  | _, _, _, .nil => by simpa using RepAll.nil
  | _, _, 0, .cons _ t => by simpa using RepAll.cons h t
  | _, _, n + 1, .cons a t => by simpa using RepAll.cons a (RepAll.set h n t)
theorem RepAll.eraseIdx : ∀ {vs : List V} {ds : List D} (n : Nat), RepAll Γ G vs ds → RepAll Γ G (vs.eraseIdx n) (ds.eraseIdx n)
  | _, _, _, .nil => by simpa using RepAll.nil
  | _, _, 0, .cons _ t => by simpa using t
  | _, _, n + 1, .cons a t => by simpa using RepAll.cons a (RepAll.eraseIdx n t)
theorem RepAll.dropLast : ∀ {vs : List V} {ds : List D}, RepAll Γ G vs ds → RepAll Γ G vs.dropLast ds.dropLast := by
  intro vs ds h
  rw [List.dropLast_eq_take, List.dropLast_eq_take, h.length]
  exact h.take _
theorem RepAll.reverse : ∀ {vs : List V} {ds : List D}, RepAll Γ G vs ds → RepAll Γ G vs.reverse ds.reverse
  | _, _, .nil => .nil
  | _, _, .cons a t => by
    rw [List.reverse_cons, List.reverse_cons]
    exact (RepAll.reverse t).append (.cons a .nil)
theorem RepAll.rep : ∀ {vs : List V} {ds : List D} (k : Nat), RepAll Γ G vs ds → RepAll Γ G (List.replicate k vs).flatten (List.replicate k ds).flatten
  | _, _, 0, _ => by simpa using RepAll.nil
  | _, _, k + 1, h => by
    rw [List.replicate_succ, List.replicate_succ, List.flatten_cons, List.flatten_cons]
    exact h.append (RepAll.rep k h)
theorem RepAll.isEmpty {vs : List V} {ds : List D} (h : RepAll Γ G vs ds) : vs.isEmpty = ds.isEmpty := by cases h <;> rfl
end

/-! ### cells, slots -/
/-- a thing that a slot owns -/
inductive C where
  | lst (l : List D) | dct (l : List (D × D))
  deriving Inhabited
def C.toD : C → D
  | .lst l => .lst l
  | .dct l => .dct l
/-- what a slot holds -/
inductive S where
  | d (x : D) | own (c : C) | io (c : C)
  deriving Inhabited
/-- the owned thing -/
def S.cell : S → Option C
  | .d _ => none
  | .own c => some c
  | .io c => some c
/-- what an expression gives: a datum, a new thing that nobody owns yet, or the thing that slot i owns -/
inductive R where
  | d (x : D) | own (c : C) | bor (i : Nat)
  deriving Inhabited
/-- .. the new thing frozen -/
inductive W where
  | d (x : D) | bor (i : Nat)
  deriving Inhabited
def R.frz : R → W
  | .d x => .d x
  | .own c => .d c.toD
  | .bor i => .bor i
abbrev En := List (Option S)
/-- an exception: its class, its fields -/
structure Ex where
  c : Nat
  fs : List (Str × D)
  deriving Inhabited
inductive Res (σ α : Type) where
  | ok (a : α) (s : σ) | exc (x : Ex) (s : σ) | stuck
  deriving Inhabited
namespace Res
variable {σ α β : Type}
def bind (r : Res σ α) (f : α → σ → Res σ β) : Res σ β := match r with
  | ok a s => f a s
  | exc x s => exc x s
  | stuck => stuck
@[simp] theorem bind_ok (a : α) (s : σ) (f : α → σ → Res σ β) : (ok a s).bind f = f a s := rfl
@[simp] theorem bind_exc (x : Ex) (s : σ) (f : α → σ → Res σ β) : (exc x s : Res σ α).bind f = exc x s := rfl
@[simp] theorem bind_stuck (f : α → σ → Res σ β) : (stuck : Res σ α).bind f = stuck := rfl
end Res

section
variable (Γ : Gm)
/-- the value is an object that is owned: not frozen, and as c says -/
def Cel (G H : Hp) (v : V) (c : C) : Prop := ∃ a, v = .ref a ∧ G a = none ∧ match c with
  | .lst l => ∃ xs, H a = some (.lst xs) ∧ RepAll Γ G xs l
  | .dct kvs => ∃ es ep ks vs, H a = some (dO a es ep) ∧ DOk Γ.w es kvs ∧ Vals ks (es.toList.map (·.key)) ∧ Vals vs (es.toList.map (·.val)) ∧ RepAll Γ G ks (kvs.map (·.1)) ∧ RepAll Γ G vs (kvs.map (·.2))
def SR (G H : Hp) (v : V) : S → Prop
  | .d x => Rep Γ G v x
  | .own c => Cel Γ G H v c
  | .io c => Cel Γ G H v c
/-- the slots -/
structure Rel (G H : Hp) (σ : L2.St) (env : En) : Prop where
  len : σ.length = env.length
  gh : Same G H
  slot : ∀ (i : Nat) (s : S), env[i]? = some (some s) → ∃ v, σ[i]? = some (some v) ∧ SR Γ G H v s
  sep : ∀ (i j : Nat) (s s' : S) (c c' : C), env[i]? = some (some s) → s.cell = some c → env[j]? = some (some s') → s'.cell = some c' → σ[i]? = σ[j]? → i = j
end
/-- the addresses that slots own -/
def Fp (σ : L2.St) (env : En) (a : Addr) : Prop := ∃ (i : Nat) (s : S) (c : C), env[i]? = some (some s) ∧ s.cell = some c ∧ σ[i]? = some (some (.ref a))
/-- what a step keeps -/
structure Keep (G H : Hp) (fp : Addr → Prop) (G' H' : Hp) : Prop where
  ss : Same G G'
  fr : ∀ a o, H a = some o → ¬ fp a → H' a = some o
  nw : ∀ a, G' a ≠ none → G a ≠ none ∨ H a = none ∨ fp a
  up : ∀ a, H a ≠ none → H' a ≠ none
theorem Keep.refl {G H : Hp} {fp : Addr → Prop} : Keep G H fp G H := ⟨.refl _, fun _ _ h _ => h, fun _ h => .inl h, fun _ h => h⟩
theorem Keep.trans {G H G1 H1 G2 H2 : Hp} {fp fp1 : Addr → Prop} (a : Keep G H fp G1 H1) (b : Keep G1 H1 fp1 G2 H2) (h : ∀ x, fp1 x → fp x ∨ H x = none) : Keep G H fp G2 H2 where
  ss := a.ss.trans b.ss
  fr := fun x o e n => b.fr x o (a.fr x o e n) fun f => (h x f).elim n fun z => by rw [z] at e; cases e
  nw := fun x e => by
    rcases b.nw x e with z | z | z
    · exact a.nw x z
    · cases q : H x with
      | none => exact .inr (.inl rfl)
      | some o => exact absurd z (a.up x (by rw [q]; exact fun z => nomatch z))
    · rcases h x z with z | z
      · exact .inr (.inr z)
      · exact .inr (.inl z)
  up := fun x e => b.up x (a.up x e)
theorem Keep.mono {G H G' H' : Hp} {fp fp' : Addr → Prop} (k : Keep G H fp G' H') (h : ∀ x, fp x → fp' x) : Keep G H fp' G' H' :=
  ⟨k.ss, fun a o e n => k.fr a o e fun z => n (h a z), fun a e => (k.nw a e).imp_right (Or.imp_right (h a)), k.up⟩

section
variable {Γ : Gm} {G H : Hp} {σ : L2.St} {env : En}
theorem SR.cell {G H : Hp} {v : V} {s : S} {c : C} (h : SR Γ G H v s) (e : s.cell = some c) : Cel Γ G H v c := by
  cases s with
  | d x => cases e
  | own c' => cases e; exact h
  | io c' => cases e; exact h
theorem Rel.own (R : Rel Γ G H σ env) {i : Nat} {s : S} {c : C} (e : env[i]? = some (some s)) (ec : s.cell = some c) : ∃ v, σ[i]? = some (some v) ∧ Cel Γ G H v c :=
  let ⟨v, h1, h2⟩ := R.slot i s e
  ⟨v, h1, h2.cell ec⟩
theorem Rel.fp_g (R : Rel Γ G H σ env) {a : Addr} (h : Fp σ env a) : G a = none ∧ H a ≠ none := by
  obtain ⟨i, s, c, e1, ec, e2⟩ := h
  obtain ⟨v, e3, b, rfl, g, hc⟩ := R.own e1 ec
  rw [e2] at e3
  cases e3
  refine ⟨g, ?_⟩
  cases c with
  | lst l => obtain ⟨_, h, _⟩ := hc; rw [h]; exact fun z => nomatch z
  | dct l => obtain ⟨_, _, _, _, h, _⟩ := hc; rw [h]; exact fun z => nomatch z
/-- what was tracked ahead stands in the new G too, as far as it is frozen -/
theorem Cel.keep {G' H' : Hp} {v : V} {c : C} (h : Cel Γ G H v c) (e : Same G G') (hg : ∀ a, v = .ref a → G' a = none) (hh : ∀ a o, v = .ref a → H a = some o → H' a = some o) : Cel Γ G' H' v c := by
  obtain ⟨a, rfl, g, hc⟩ := h
  refine ⟨a, rfl, hg a rfl, ?_⟩
  cases c with
  | lst l => obtain ⟨xs, h, r⟩ := hc; exact ⟨xs, hh a _ rfl h, r.mono e⟩
  | dct l => obtain ⟨es, ep, ks, vs, h, s, k, v, r1, r2⟩ := hc; exact ⟨es, ep, ks, vs, hh a _ rfl h, s, k, v, r1.mono e, r2.mono e⟩
theorem SR.keep {G' H' : Hp} {v : V} {s : S} (h : SR Γ G H v s) (e : Same G G') (hg : ∀ a c, s.cell = some c → v = .ref a → G' a = none) (hh : ∀ a o c, s.cell = some c → v = .ref a → H a = some o → H' a = some o) : SR Γ G' H' v s := by
  cases s with
  | d x => exact Rep.mono e _ _ h
  | own c => exact Cel.keep (show Cel Γ G H v c from h) e (fun a q => hg a c rfl q) fun a o q => hh a o c rfl q
  | io c => exact Cel.keep (show Cel Γ G H v c from h) e (fun a q => hg a c rfl q) fun a o q => hh a o c rfl q
theorem same_upd {o : HO} {p : Addr} (hp : H p = none) : Same H (upd H p o) := fun b q e => by rw [upd_ne (ne_of_none e hp)]; exact e
/-- a step that leaves what the slots own as it was -/
theorem Rel.keep {G' H' : Hp} (R : Rel Γ G H σ env) (e : Same G G') (gh : Same G' H') (hg : ∀ a, Fp σ env a → G' a = none) (hh : ∀ a o, Fp σ env a → H a = some o → H' a = some o) : Rel Γ G' H' σ env :=
  ⟨R.len, gh, fun i s q => let ⟨v, e1, r⟩ := R.slot i s q
    ⟨v, e1, r.keep e (fun a c ec z => hg a ⟨i, s, c, q, ec, by rw [e1, z]⟩) fun a o c ec z => hh a o ⟨i, s, c, q, ec, by rw [e1, z]⟩⟩, R.sep⟩
theorem same_lay {o : HO} {p : Addr} (gh : Same G H) : Same (upd G p o) (upd H p o) := fun b q e => by
  by_cases hb : b = p
  · subst hb; rw [upd_same] at e; rw [upd_same]; exact e
  · rw [upd_ne hb] at e; rw [upd_ne hb]; exact gh _ _ e
/-- a new object, frozen -/
theorem Rel.lay (R : Rel Γ G H σ env) {p : Addr} {o : HO} (hp : H p = none) : Rel Γ (upd G p o) (upd H p o) σ env := by
  have ne : ∀ a, Fp σ env a → a ≠ p := fun a f q => by subst q; exact (R.fp_g f).2 hp
  exact R.keep (same_upd (R.gh.free hp)) (same_lay R.gh) (fun a f => by rw [upd_ne (ne a f)]; exact (R.fp_g f).1) fun a q f h => by rw [upd_ne (ne a f)]; exact h
/-- a new object, not frozen -/
theorem Rel.lay' (R : Rel Γ G H σ env) {p : Addr} {o : HO} (hp : H p = none) : Rel Γ G (upd H p o) σ env :=
  R.keep (.refl _) (R.gh.trans (same_upd hp)) (fun a f => (R.fp_g f).1) fun a q _ h => same_upd hp _ _ h
theorem Keep.lay {p : Addr} {o : HO} {fp : Addr → Prop} (gh : Same G H) (hp : H p = none) : Keep G H fp (upd G p o) (upd H p o) where
  ss := same_upd (gh.free hp)
  fr := fun a q e _ => same_upd hp _ _ e
  nw := fun a e => by
    by_cases ha : a = p
    · subst ha; exact .inr (.inl hp)
    · rw [upd_ne ha] at e; exact .inl e
  up := fun a e => by
    by_cases ha : a = p
    · subst ha; exact absurd hp e
    · rw [upd_ne ha]; exact e
theorem Keep.lay' {p : Addr} {o : HO} {fp : Addr → Prop} (hp : H p = none) : Keep G H fp G (upd H p o) where
  ss := .refl _
  fr := fun a q e _ => same_upd hp _ _ e
  nw := fun a e => .inl e
  up := fun a e => by
    by_cases ha : a = p
    · subst ha; exact absurd hp e
    · rw [upd_ne ha]; exact e
end
end Tk

set_option Elab.async false
set_option linter.all false
set_option maxRecDepth 100000
set_option maxHeartbeats 1000000
/-! Ir1: what a text of the small language computes. -/
namespace Tk
open PySem PySem.Spec L2

/-! ### operations on data -/
mutual
def D.py : D → PyData
  | .non => .none
  | .bl b => .bool b
  | .int i => .int i
  | .str s => .str s
  | .tup l => .tuple (D.pys l)
  | .lst l => .list (D.pys l)
  | .dct _ => .dict []
  | .ins _ _ => .dict []
  | .scr _ => .dict []
def D.pys : List D → List PyData
  | [] => []
  | d :: r => D.py d :: D.pys r
end
mutual
/-- == -/
def D.eqv : D → D → Bool
  | .non, .non => true
  | .bl a, .bl b => a == b
  | .bl a, .int j => (if a then 1 else 0) == j
  | .int i, .bl b => i == (if b then 1 else 0)
  | .int i, .int j => i == j
  | .str x, .str y => x == y
  | .lst xs, .lst ys => D.eqvs xs ys
  | .tup xs, .tup ys => D.eqvs xs ys
  | _, _ => false
def D.eqvs : List D → List D → Bool
  | [], [] => true
  | x :: xs, y :: ys => D.eqv x y && D.eqvs xs ys
  | _, _ => false
end
mutual
/-- data that == reads: no dicts, no instances; d deep -/
def D.shp : Nat → D → Bool
  | _, .non => true
  | _, .bl _ => true
  | _, .int _ => true
  | _, .str s => s.cps.all (· < 0x110000)
  | n + 1, .tup l => D.shps n l
  | n + 1, .lst l => D.shps n l
  | _, _ => false
def D.shps : Nat → List D → Bool
  | _, [] => true
  | n, d :: r => D.shp n d && D.shps n r
end
def eqD (a b : D) : Option Bool := if (D.shp 60 a && D.shp 60 b) = true then some (D.eqv a b) else none
/-- x in l -/
def inD (x : D) (l : List D) : Option Bool := if (D.shp 60 x && D.shps 59 l) = true then some (l.any fun y => D.eqv y x) else none

def D.isNon : D → Bool
  | .non => true
  | _ => false

def truthD : D → Option Bool
  | .non => some false
  | .bl b => some b
  | .int i => some (i != 0)
  | .str s => if s.length ≤ sizeLine then some ((s.length : Int) != 0) else none
  | .tup l => some (!l.isEmpty)
  | .lst l => some (!l.isEmpty)
  | _ => none
def lenD : D → Option Nat
  | .str s => if s.length ≤ sizeLine then some s.length else none
  | .tup l => some l.length
  | .lst l => some l.length
  | .dct l => some l.length
  | _ => none

inductive BOp where
  | add | sub | mul | fdiv | mod | pow
  deriving DecidableEq
inductive COp where
  | eq | ne | lt | le | gt | ge | inn | nin | is | isn
  deriving DecidableEq
inductive Bi where
  | len | int | bool | list | tuple | all | any | sorted
  deriving DecidableEq

def binD : BOp → D → D → Option R
  | .add, .int i, .int j => some (.d (.int (i + j)))
  | .add, .str s, .str t => if s.length + t.length ≤ sizeLine then some (.d (.str (s ++ t))) else none
  | .add, .lst l, .lst m => if l.length + m.length ≤ sizeLine then some (.own (.lst (l ++ m))) else none
  | .add, .tup l, .tup m => if l.length + m.length ≤ sizeLine then some (.d (.tup (l ++ m))) else none
  | .sub, .int i, .int j => some (.d (.int (i - j)))
  | .mul, .int i, .int j => if (-(2 ^ 64) < i ∧ i < 2 ^ 64) ∨ (-(2 ^ 64) < j ∧ j < 2 ^ 64) then some (.d (.int (i * j))) else none
  | .mul, .lst l, .int k => if -(2 ^ 63) ≤ k ∧ k < 2 ^ 63 ∧ l.length * k.toNat ≤ sizeLine then some (.own (.lst (List.replicate k.toNat l).flatten)) else none
  | .fdiv, .int i, .int j => if 0 < j ∧ j < 1073741824 then some (.d (.int (i / j))) else none
  | .mod, .int i, .int j => if 0 < j then some (.d (.int (i % j))) else none
  | .pow, .int i, .int j => if 0 ≤ j ∧ j ≤ 1000000 ∧ i.natAbs < 2 ^ 64 then some (.d (.int (i ^ j.toNat))) else none
  | _, _, _ => none

def cmpD : COp → D → D → Option Bool
  | .eq, a, b => eqD a b
  | .ne, a, b => (eqD a b).map (!·)
  | .lt, .int i, .int j => some (decide (i < j))
  | .le, .int i, .int j => some (decide (i ≤ j))
  | .gt, .int i, .int j => some (decide (j < i))
  | .ge, .int i, .int j => some (decide (j ≤ i))
  | .lt, .str i, .str j => some (decide (i.cps.toList < j.cps.toList))
  | .inn, x, .lst l => inD x l
  | .inn, x, .tup l => inD x l
  | .inn, .str x, .str y => some (!(Builtin.Str.occurrences y x 0 y.length 1).isEmpty)
  | .nin, x, .lst l => (inD x l).map (!·)
  | .nin, x, .tup l => (inD x l).map (!·)
  | .nin, .str x, .str y => some (!(!(Builtin.Str.occurrences y x 0 y.length 1).isEmpty))
  | .is, x, .non => some x.isNon
  | .isn, x, .non => some !x.isNon
  | _, _, _ => none

/-- o[i] -/
def idxD : D → D → Option D
  | .lst l, .int i => atI l i
  | .tup l, .int i => atI l i
  | .str s, .int i => if s.length ≤ sizeLine then (atI s.cps.toList i).map fun c => .str ⟨#[c]⟩ else none
  | _, _ => none
/-- the items of l[lo:hi] -/
def cutD (l : List D) (lo hi : Option Int) : List D := (l.drop (HT.sIx l.length 0 lo)).take (HT.sIx l.length l.length hi - HT.sIx l.length 0 lo)
def slcD (x : D) (lo hi : Option Int) : Option R := match x with
  | .lst l => some (.own (.lst (cutD l lo hi)))
  | .tup l => some (.d (.tup (cutD l lo hi)))
  | .str s => if s.length ≤ sizeLine then some (.d (.str (cutS s lo hi))) else none
  | _ => none

def bools : List D → Option (List Bool)
  | [] => some []
  | .bl b :: r => (bools r).map (b :: ·)
  | _ => none
def alikeB (l : List D) : Bool := l.all fun a => l.all fun b => PySem.W.alike a.py b.py
def sortableB (l : List D) : Bool := (l.all fun a => match a with | .tup (_ :: _) => true | _ => false) || (l.all fun a => match a with | .non => false | .tup _ => false | _ => true)
def sortOk (l : List D) : Bool := D.shps 59 l && alikeB l && (sortableB l || (l.length == 1 && l.all fun d => !d.isNon))
def sortD (l : List D) : Option (List D) := if sortOk l = true then some (l.mergeSort (PySem.W.dataLe false D.py)) else none
def biD : Bi → D → Option R
  | .len, x => (lenD x).map fun (n : Nat) => .d (.int n)
  | .int, .int i => some (.d (.int i))
  | .int, .bl b => some (.d (.int (if b then 1 else 0)))
  | .bool, .int i => some (.d (.bl (i != 0)))
  | .bool, .bl b => some (.d (.bl b))
  | .list, .lst l => some (.own (.lst l))
  | .list, .tup l => some (.own (.lst l))
  | .list, .dct l => some (.own (.lst (l.map (·.1))))
  | .tuple, .lst l => some (.d (.tup l))
  | .tuple, .tup l => some (.d (.tup l))
  | .tuple, .str s => if s.length ≤ sizeLine then some (.d (.tup (s.cps.toList.map fun c => .str ⟨#[c]⟩))) else none
  | .all, .lst l => (bools l).map fun bs => .d (.bl (bs.all id))
  | .any, .lst l => (bools l).map fun bs => .d (.bl (bs.any id))
  | .sorted, .lst l => (sortD l).map fun l' => .own (.lst l')
  | _, _ => none
/-- d[k] = v -/
def putD (k : NestedKey) (x v : D) (l : List (D × D)) : List (D × D) :=
  if (l.any fun p => decide (keyD p.1 = some k)) = true then l.map fun p => if keyD p.1 = some k then (p.1, v) else p else l ++ [(x, v)]
def getD' (k : NestedKey) : List (D × D) → Option D
  | [] => none
  | (y, u) :: r => if keyD y = some k then some u else getD' k r

/-! ### the text -/
/-- a target: a name's slot, or some names -/
inductive IT where
  | name (i : Nat) | tup (l : List Nat)
mutual
inductive IE where
  | var (i : Nat) | con (x : D) | glo (x : Str) (d : D)
  | bin (o : BOp) (a b : IE) | cmp (o : COp) (a b : IE)
  | and2 (a b : IE) | or2 (a b : IE) | not1 (a : IE) | ife (c a b : IE)
  | idx (a b : IE) | slc (a : IE) (lo hi : IO)
  | tup (es : IEs) | lst (es : IEs)
  | bi (f : Bi) (a : IE)
  | call (f : Nat) (as : IAs) (kw : IAs) (perm : List Nat)
  | lc (it : II) (tg : IT) (vs : List Nat) (c : IO) (e : IE)
  | dc (it : II) (tg : IT) (vs : List Nat) (k v : IE)
  | pop (i : Nat) (a : IO)
  | frz (i : Nat)
inductive IO where
  | none | some (e : IE)
inductive IEs where
  | nil | cons (e : IE) (es : IEs)
/-- arguments: a value; what slot i owns, by reference; what slot i owns, to be read -/
inductive IAs where
  | nil | v (e : IE) (r : IAs) | io (i : Nat) (r : IAs) | sn (i : Nat) (r : IAs)
inductive II where
  | seq (e : IE) | rng1 (e : IE) | rng2 (a b : IE) | enum (e : IE) | zip (a b : IE)
end
inductive Arg where
  | d (x : D) | io (i : Nat) | sn (i : Nat)
  deriving Inhabited

/-! ### helpers -/
def cellAt (env : En) (i : Nat) : Option C := match env[i]? with
  | some (some s) => s.cell
  | _ => none
/-- what stands for it now -/
def val (env : En) : W → Option D
  | .d x => some x
  | .bor i => match env[i]? with
    | some (some (.d x)) => some x
    | some (some (.own c)) => some c.toD
    | some (some (.io c)) => some c.toD
    | _ => none
def W.r : W → R
  | .d x => .d x
  | .bor i => .bor i
def lift {α : Type} (o : Option α) (env : En) : Res En α := match o with
  | some a => .ok a env
  | none => .stuck
def Res.frz {σ : Type} (r : Res σ R) : Res σ W := r.bind fun x s => .ok x.frz s
/-- its datum -/
def Res.val (r : Res En R) : Res En D := r.bind fun x env => lift (Tk.val env x.frz) env
/-- its truth -/
def Res.tru (r : Res En R) : Res En Bool := r.bind fun x env => lift ((Tk.val env x.frz).bind truthD) env
def wipeE (env : En) : List Nat → En
  | [] => env
  | v :: vs => (wipeE env vs).set v none
/-- env', the slots vs as in env -/
def backE (env env' : En) : List Nat → En
  | [] => env'
  | v :: vs => (backE env env' vs).set v (match env[v]? with | some s => s | none => none)
def bindNames : List Nat → List D → En → Option En
  | [], [], env => some env
  | i :: is, x :: xs, env => bindNames is xs (env.set i (some (.d x)))
  | _, _, _ => none
def bindT : IT → D → En → Option En
  | .name i, x, env => some (env.set i (some (.d x)))
  | .tup l, .tup xs, env => bindNames l xs env
  | .tup _, _, _ => none
/-- a slot's owned thing changed -/
def putCell (env : En) (i : Nat) (c : C) : En := match env[i]? with
  | some (some (.own _)) => env.set i (some (.own c))
  | some (some (.io _)) => env.set i (some (.io c))
  | _ => env
def argS (env : En) : Arg → Option S
  | .d x => some (.d x)
  | .io i => (cellAt env i).map .io
  | .sn i => (cellAt env i).map fun c => .d c.toD
def argsS (env : En) : List Arg → Option (List S)
  | [] => some []
  | a :: r => match argS env a, argsS env r with
    | some s, some ss => some (s :: ss)
    | _, _ => none
def iosOf : List Arg → List Nat
  | [] => []
  | .io i :: r => i :: iosOf r
  | _ :: r => iosOf r
def refsOf : List Arg → List Nat
  | [] => []
  | .io i :: r => i :: refsOf r
  | .sn i :: r => i :: refsOf r
  | _ :: r => refsOf r
def hasSn : List Arg → Bool
  | [] => false
  | .sn _ :: _ => true
  | _ :: r => hasSn r
def putBack (env : En) : List Nat → List C → Option En
  | [], [] => some env
  | i :: is, c :: cs => putBack (putCell env i c) is cs
  | _, _ => none
def isScalar : D → Bool
  | .non => true | .bl _ => true | .int _ => true | .str _ => true
  | _ => false
def cScalar : C → Bool
  | .lst l => l.all isScalar
  | _ => false
abbrev Fn := List S → Res (List C) S
abbrev FE := Nat → Fn
/-- what a call gives, by what the def gives -/
def callE (as : List Arg) (env : En) : Res (List C) S → Res En R
  | .ok (.d x) outs => (match putBack env (iosOf as) outs with
    | some env' => if hasSn as = true then (if (isScalar x && outs.all cScalar) = true then .ok (.d x) env' else .stuck) else .ok (.d x) env'
    | none => .stuck)
  | .ok (.own c) outs => (match putBack env (iosOf as) outs with
    | some env' => if hasSn as = true then .stuck else .ok (.own c) env'
    | none => .stuck)
  | .exc x outs => (match putBack env (iosOf as) outs with
    | some env' => if hasSn as = true then .stuck else .exc x env'
    | none => .stuck)
  | _ => .stuck
def callR (f : Fn) (as : List Arg) (env : En) : Res En R :=
  match argsS env as with
  | none => .stuck
  | some ss => if (refsOf as).Nodup then callE as env (f ss) else .stuck
def allD : List W → Option (List D)
  | [] => some []
  | .d x :: r => (allD r).map (x :: ·)
  | .bor _ :: _ => none
def permArgs {α : Type} (l : List α) : List Nat → Option (List α)
  | [] => some []
  | i :: r => match l[i]?, permArgs l r with
    | some x, some xs => some (x :: xs)
    | _, _ => none
/-- no list: as they stand -/
def permA {α : Type} (l : List α) (p : List Nat) : Option (List α) := if p.isEmpty = true then some l else permArgs l p
/-- the items that a comprehension makes -/
def lcGo (tg : IT) (vs : List Nat) (c : En → Res En Bool) (e : En → Res En R) : List D → En → Res En (List D)
  | [], env => .ok [] env
  | x :: r, env => match bindT tg x (wipeE env vs) with
    | none => .stuck
    | some env1 => (c env1).bind fun b env2 =>
      if b = true then (e env2).frz.bind fun w env3 => match w with
        | .d y => (lcGo tg vs c e r env3).bind fun ys env4 => .ok (y :: ys) env4
        | .bor _ => .stuck
      else lcGo tg vs c e r env2
/-- .. a dict's -/
def dcGo (tg : IT) (vs : List Nat) (k v : En → Res En R) : List D → List (D × D) → En → Res En (List (D × D))
  | [], acc, env => .ok acc env
  | x :: r, acc, env => match bindT tg x (wipeE env vs) with
    | none => .stuck
    | some env1 => (k env1).frz.bind fun w env2 => (v env2).frz.bind fun u env3 => match w, u with
      | .d y, .d z => (match keyD y with
        | some nk => if (y.isTup && decide (nk.depth ≤ 8) && decide (acc.length < sizeLine)) = true then dcGo tg vs k v r (putD nk y z acc) env3 else .stuck
        | none => .stuck)
      | _, _ => .stuck
def rng (i j : Int) : Option (List D) :=
  if (-(2 ^ 62) ≤ i ∧ i < 2 ^ 62 ∧ -(2 ^ 62) ≤ j ∧ j < 2 ^ 62) ∧ (j - i).toNat ≤ sizeLine then some ((List.range (j - i).toNat).map fun k => .int (i + (k : Nat))) else none
def enumD : Nat → List D → List D
  | _, [] => []
  | n, x :: r => .tup [.int n, x] :: enumD (n + 1) r
def zipD : List D → List D → List D
  | x :: r, y :: s => .tup [x, y] :: zipD r s
  | _, _ => []
/-- what a for walks -/
def itemsD : D → Option (List D)
  | .lst l => some l
  | .tup l => some l
  | .scr l => some (l.map .int)
  | .str s => if s.length ≤ sizeLine then some (s.cps.toList.map fun c => .str ⟨#[c]⟩) else none
  | _ => none

mutual
def evE (F : FE) : IE → En → Res En R
  | .var i, env => match env[i]? with
    | some (some (.d x)) => .ok (.d x) env
    | some (some _) => .ok (.bor i) env
    | _ => .stuck
  | .con x, env => .ok (.d x) env
  | .glo _ d, env => .ok (.d d) env
  | .bin o a b, env => (evE F a env).frz.bind fun x env1 => (evE F b env1).frz.bind fun y env2 =>
    lift ((val env2 x).bind fun u => (val env2 y).bind fun w => binD o u w) env2
  | .cmp o a b, env => (evE F a env).frz.bind fun x env1 => (evE F b env1).frz.bind fun y env2 =>
    lift ((val env2 x).bind fun u => (val env2 y).bind fun w => (cmpD o u w).map fun k => .d (.bl k)) env2
  | .and2 a b, env => (evE F a env).frz.bind fun x env1 => (lift ((val env1 x).bind truthD) env1).bind fun k env1 => if k = true then evE F b env1 else .ok x.r env1
  | .or2 a b, env => (evE F a env).frz.bind fun x env1 => (lift ((val env1 x).bind truthD) env1).bind fun k env1 => if k = true then .ok x.r env1 else evE F b env1
  | .not1 a, env => (evE F a env).tru.bind fun k env1 => .ok (.d (.bl (!k))) env1
  | .ife c a b, env => (evE F c env).tru.bind fun k env1 => if k = true then evE F a env1 else evE F b env1
  | .idx a b, env => (evE F a env).frz.bind fun x env1 => (evE F b env1).frz.bind fun y env2 =>
    lift ((val env2 x).bind fun u => (val env2 y).bind fun w => (idxD u w).map .d) env2
  | .slc a lo hi, env => (evE F a env).frz.bind fun x env1 => (evO F lo env1).bind fun l env2 => (evO F hi env2).bind fun h env3 =>
    lift ((val env3 x).bind fun u => slcD u l h) env3
  | .tup es, env => (evEs F es env).bind fun ws env1 => lift ((allD ws).bind fun ds => if ds.length ≤ sizeLine then some (.d (.tup ds)) else none) env1
  | .lst es, env => (evEs F es env).bind fun ws env1 => lift ((allD ws).bind fun ds => if ds.length ≤ sizeLine then some (.own (.lst ds)) else none) env1
  | .bi f a, env => (evE F a env).frz.bind fun x env1 => lift ((val env1 x).bind fun u => biD f u) env1
  | .call f as kw perm, env => (evAs F as env).bind fun xs env1 => (evAs F kw env1).bind fun ys env2 => match permA (xs ++ ys) perm with
    | some zs => callR (F f) zs env2
    | none => .stuck
  | .lc it tg vs c e, env => (evI F it env).bind fun items env1 => (lcGo tg vs (fun en => match c with
      | .none => .ok true en
      | .some c => (evE F c en).tru) (fun en => evE F e en) items env1).bind fun ys env2 => .ok (.own (.lst ys)) (backE env1 env2 vs)
  | .dc it tg vs k v, env => (evI F it env).bind fun items env1 => (dcGo tg vs (fun en => evE F k en) (fun en => evE F v en) items [] env1).bind fun kvs env2 => .ok (.own (.dct kvs)) (backE env1 env2 vs)
  | .pop i a, env => match a with
    | .none => (match cellAt env i with
      | some (.lst l) => (match l.getLast? with
        | some x => .ok (.d x) (putCell env i (.lst l.dropLast))
        | none => .stuck)
      | _ => .stuck)
    | .some a => (match cellAt env i with
      | some (.lst _) => (evE F a env).val.bind fun x env1 => (match cellAt env1 i, x with
        | some (.lst l), .int k => if -(2 ^ 63) ≤ k ∧ k < 2 ^ 63 then (match seqIndex? k l.length with
          | some n => (match l[n]? with
            | some x => .ok (.d x) (putCell env1 i (.lst (l.eraseIdx n)))
            | none => .stuck)
          | none => .stuck) else .stuck
        | _, _ => .stuck)
      | _ => .stuck)
  | .frz i, env => match env[i]? with
    | some (some (.d x)) => .ok (.d x) env
    | some (some (.own c)) => .ok (.d c.toD) (env.set i (some (.d c.toD)))
    | _ => .stuck
/-- a slice's part -/
def evO (F : FE) : IO → En → Res En (Option Int)
  | .none, env => .ok none env
  | .some e, env => (evE F e env).val.bind fun x env1 => match x with
    | .int i => .ok (some i) env1
    | _ => .stuck
def evEs (F : FE) : IEs → En → Res En (List W)
  | .nil, env => .ok [] env
  | .cons e es, env => (evE F e env).frz.bind fun x env1 => (evEs F es env1).bind fun xs env2 => .ok (x :: xs) env2
def evAs (F : FE) : IAs → En → Res En (List Arg)
  | .nil, env => .ok [] env
  | .v e r, env => (evE F e env).frz.bind fun x env1 => match x with
    | .d x => (evAs F r env1).bind fun xs env2 => .ok (.d x :: xs) env2
    | .bor _ => .stuck
  | .io i r, env => if (cellAt env i).isSome then (evAs F r env).bind fun xs env2 => .ok (.io i :: xs) env2 else .stuck
  | .sn i r, env => if (cellAt env i).isSome then (evAs F r env).bind fun xs env2 => .ok (.sn i :: xs) env2 else .stuck
def evI (F : FE) : II → En → Res En (List D)
  | .seq e, env => (evE F e env).frz.bind fun x env1 => match x with
    | .d x => lift (itemsD x) env1
    | .bor _ => .stuck
  | .rng1 e, env => (evE F e env).val.bind fun x env1 => match x with
    | .int j => lift (rng 0 j) env1
    | _ => .stuck
  | .rng2 a b, env => (evE F a env).val.bind fun x env1 => (evE F b env1).val.bind fun y env2 => match x, y with
    | .int i, .int j => lift (rng i j) env2
    | _, _ => .stuck
  | .enum e, env => (evE F e env).frz.bind fun x env1 => match x with
    | .d (.lst l) => .ok (enumD 0 l) env1
    | _ => .stuck
  | .zip a b, env => (evE F a env).frz.bind fun x env1 => (evE F b env1).frz.bind fun y env2 => match x, y with
    | .d (.lst l), .d (.lst m) => .ok (zipD l m) env2
    | _, _ => .stuck
end

/-! ### statements -/
inductive Fl where
  | nx | brk | cnt | ret (r : R)
mutual
inductive IS where
  | asg (tg : IT) (e : IE)
  | own (i : Nat) (e : IE)
  | pair (i j : Nat) (a b : IE)
  | seti (i : Nat) (k e : IE)
  | app (i : Nat) (e : IE)
  | ext (i : Nat) (e : IE)
  | expr (e : IE)
  | ife (c : IE) (a b : ISs)
  | for_ (it : II) (tg : IT) (b : ISs)
  | while_ (n : Nat) (c : IE) (b : ISs)
  | ret (e : IE) | retN | brk | cnt | pass
inductive ISs where
  | nil | cons (s : IS) (ss : ISs)
end
/-- a name's slot is stored: what came in by reference stays -/
def setS (env : En) (i : Nat) (s : S) : Option En := match env[i]? with
  | some (some (.io _)) => none
  | some _ => some (env.set i (some s))
  | none => none
def noIo (env : En) : List Nat → Bool
  | [] => true
  | i :: r => (match env[i]? with | some (some (.io _)) => false | some _ => true | none => false) && noIo env r
def IT.slots : IT → List Nat
  | .name i => [i]
  | .tup l => l
def bindS (tg : IT) (x : D) (env : En) : Option En := if noIo env tg.slots = true then bindT tg x env else none
def ownS : R → Option S
  | .d x => some (.d x)
  | .own c => some (.own c)
  | .bor _ => none
def frzS : R → Option S
  | .d x => some (.d x)
  | .own c => some (.d c.toD)
  | .bor _ => none
def forGo (tg : IT) (body : En → Res En Fl) : List D → En → Res En Fl
  | [], env => .ok .nx env
  | x :: r, env => match bindS tg x env with
    | none => .stuck
    | some env1 => (body env1).bind fun fl env2 => match fl with
      | .nx => forGo tg body r env2
      | .cnt => forGo tg body r env2
      | .brk => .ok .nx env2
      | .ret v => .ok (.ret v) env2
def whGo (c : En → Res En Bool) (body : En → Res En Fl) : Nat → En → Res En Fl
  | 0, _ => .stuck
  | n + 1, env => (c env).bind fun b env1 => if b = true then (body env1).bind fun fl env2 => match fl with
      | .nx => whGo c body n env2
      | .cnt => whGo c body n env2
      | .brk => .ok .nx env2
      | .ret v => .ok (.ret v) env2
    else .ok .nx env1
mutual
def evS (F : FE) : IS → En → Res En Fl
  | .asg tg e, env => (evE F e env).frz.bind fun x env1 => match x with
    | .d x => (lift (bindS tg x env1) env1).bind fun env2 _ => .ok .nx env2
    | .bor _ => .stuck
  | .own i e, env => (evE F e env).bind fun x env1 => (lift ((ownS x).bind fun s => setS env1 i s) env1).bind fun env2 _ => .ok .nx env2
  | .pair i j a b, env => (evE F a env).bind fun x env1 => (evE F b env1).bind fun y env2 =>
    (lift ((ownS x).bind fun s => (ownS y).bind fun u => (setS env2 i s).bind fun env3 => setS env3 j u) env2).bind fun env3 _ => .ok .nx env3
  | .seti i k e, env => (evE F e env).frz.bind fun x env1 => match x, cellAt env1 i with
    | .d x, some (.lst _) => (evE F k env1).val.bind fun n env2 => (match n, cellAt env2 i with
      | .int n, some (.lst l) => (match ixN l.length n with
        | some j => .ok .nx (putCell env2 i (.lst (l.set j x)))
        | none => .stuck)
      | _, _ => .stuck)
    | _, _ => .stuck
  | .app i e, env => match cellAt env i with
    | some (.lst _) => (evE F e env).frz.bind fun x env1 => (match x, cellAt env1 i with
      | .d x, some (.lst l) => if l.length < sizeLine then .ok .nx (putCell env1 i (.lst (l ++ [x]))) else .stuck
      | _, _ => .stuck)
    | _ => .stuck
  | .ext i e, env => match cellAt env i with
    | some (.lst _) => (evE F e env).frz.bind fun x env1 => (match x, cellAt env1 i with
      | .d (.lst m), some (.lst l) => if l.length + m.length ≤ sizeLine then .ok .nx (putCell env1 i (.lst (l ++ m))) else .stuck
      | _, _ => .stuck)
    | _ => .stuck
  | .expr e, env => (evE F e env).bind fun _ env1 => .ok .nx env1
  | .ife c a b, env => (evE F c env).tru.bind fun k env1 => if k = true then evSs F a env1 else evSs F b env1
  | .for_ it tg b, env => (evI F it env).bind fun items env1 => forGo tg (fun en => evSs F b en) items env1
  | .while_ n c b, env => whGo (fun en => (evE F c en).tru) (fun en => evSs F b en) n env
  | .ret e, env => (evE F e env).bind fun x env1 => .ok (.ret x) env1
  | .retN, env => .ok (.ret (.d .non)) env
  | .brk, env => .ok .brk env
  | .cnt, env => .ok .cnt env
  | .pass, env => .ok .nx env
def evSs (F : FE) : ISs → En → Res En Fl
  | .nil, env => .ok .nx env
  | .cons s ss, env => (evS F s env).bind fun fl env1 => match fl with
    | .nx => evSs F ss env1
    | fl => .ok fl env1
end
/-- what came in by reference, as it stands -/
def outsOf : En → List C
  | [] => []
  | some (.io c) :: r => c :: outsOf r
  | _ :: r => outsOf r
/-- what a def hands back -/
def retS (env : En) : R → Option S
  | .d x => some (.d x)
  | .own c => some (.own c)
  | .bor i => match env[i]? with
    | some (some (.own c)) => some (.own c)
    | some (some (.d x)) => some (.d x)
    | _ => none
/-- a def of np parameters, ns slots -/
def runF (F : FE) (np ns : Nat) (body : ISs) : Fn := fun args =>
  if args.length = np then
    match evSs F body (args.map some ++ List.replicate (ns - np) none) with
    | .ok .nx env => .ok (.d .non) (outsOf env)
    | .ok (.ret r) env => (match retS env r with
      | some s => .ok s (outsOf env)
      | none => .stuck)
    | .ok _ _ => .stuck
    | .exc x env => .exc x (outsOf env)
    | .stuck => .stuck
  else .stuck
end Tk

set_option Elab.async false
set_option linter.all false
set_option maxRecDepth 100000
set_option maxHeartbeats 1000000
/-! Ir2: what a rule of the layer says in the words of the small language. -/
namespace Tk
open PySem PySem.Spec L2

abbrev gm (X : Cx) (cl : Nat → Addr) : Gm := ⟨X.prog, X.w, X.K, X.mg, X.base, cl⟩
/-- sizes of what stands -/
structure Sz (K : PySem.W.Frag) (H : Hp) : Prop where
  l : ∀ a xs, SqL K H a xs → xs.length ≤ sizeLine
  t : ∀ a xs, SqT K H a xs → xs.length ≤ sizeLine
  d : ∀ (a : Addr) (es : Array DictEntry) (ep : Nat), H a = some (dO a es ep) → True
theorem vals_len {xs : List V} {its : Array Value} (r : Vals xs its.toList) : xs.length = its.size := by rw [r.length]; simp
theorem inv_sz {X : Cx} {pins : List (Addr × Obj)} {σ : L2.St} {H : Hp} {s : Shared} (I : Inv X pins σ H s) : Sz X.K H where
  l := fun a xs h => by
    rcases h with h | ⟨o, its, n, _, _, _, _, h1, h2⟩
    · obtain ⟨z, _⟩ := h.ok I.hok; exact z
    · rw [vals_len h2]; exact h1
  t := fun a xs h => by
    rcases h with h | ⟨o, its, n, _, _, _, h1, h2⟩
    · obtain ⟨z, _⟩ := h.ok I.hok; exact z
    · rw [vals_len h2]; exact h1
  d := fun _ _ _ _ => trivial

section
variable {X : Cx} {e : Expr} {t t0 : TE}
theorem pe_imp (h : PE X e t0) (i : ∀ σ H Q, t σ H Q → t0 σ H Q) : PE X e t := ⟨fun pins s σ H Q I z => h.run pins s σ H Q I (i σ H Q z)⟩
theorem pt_imp {t t0 : TT} (h : PT X e t0) (i : ∀ σ H Q, t σ H Q → t0 σ H Q) : PT X e t := ⟨fun pins s σ H Q I z => h.run pins s σ H Q I (i σ H Q z)⟩
theorem pa_imp {es : List Expr} {t t0 : TA} (h : PA X es t0) (i : ∀ σ H Q, t σ H Q → t0 σ H Q) : PA X es t := ⟨fun pos pins s σ H Q I z => h.run pos pins s σ H Q I (i σ H Q z)⟩
theorem pss_imp {st : List Stmt} {t t0 : TS} (h : PSs X st t0) (i : ∀ D σ H, t D σ H → t0 D σ H) : PSs X st t := ⟨fun pins s σ H D I z => h.run pins s σ H D I (i D σ H z)⟩
theorem ps_imp {st : Stmt} {t t0 : TS} (h : PS X st t0) (i : ∀ D σ H, t D σ H → t0 D σ H) : PS X st t := ⟨fun pins s σ H D I z => h.run pins s σ H D I (i D σ H z)⟩
theorem pg_imp {t t0 : TG} (h : PG X e t0) (i : ∀ v σ H Q, t v σ H Q → t0 v σ H Q) : PG X e t := ⟨fun pins s σ H v u Q I r z => h.run pins s σ H v u Q I r (i v σ H Q z)⟩
theorem pi_imp {tg : Expr} {t t0 : TI} (h : PI X tg e t0) (i : ∀ σ H R, t σ H R → t0 σ H R) : PI X tg e t := ⟨fun pins s σ H R I z => h.run pins s σ H R I (i σ H R z)⟩
/-- the sizes of what stands behind it -/
theorem pe_sz (h : PE X e t) : PE X e (fun σ H Q => t σ H fun v H' => Sz X.K H' → Q v H') :=
  ⟨fun pins s σ H Q I z => thn (h.run pins s σ H _ I z) fun u s' ⟨v, H', I', r, q⟩ => ⟨v, H', I', r, q (inv_sz I')⟩⟩
theorem pt_sz {t : TT} (h : PT X e t) : PT X e (fun σ H Q => t σ H fun v H' => Sz X.K H' → Q v H') :=
  ⟨fun pins s σ H Q I z => thn (h.run pins s σ H _ I z) fun u s' ⟨H', I', q⟩ => ⟨H', I', q (inv_sz I')⟩⟩
/-- .. ahead of it -/
theorem pe_sz0 (h : PE X e t) : PE X e (fun σ H Q => Sz X.K H → t σ H Q) := ⟨fun pins s σ H Q I z => h.run pins s σ H Q I (z (inv_sz I))⟩
end

/-! ### steps -/
/-- slots behind a step: what is owned was so ahead -/
structure Le (env env' : En) : Prop where
  len : env'.length = env.length
  own : ∀ (i : Nat) (s' : S) (c' : C), env'[i]? = some (some s') → s'.cell = some c' → ∃ (s : S) (c : C), env[i]? = some (some s) ∧ s.cell = some c
  io : ∀ (i : Nat) (c : C), env[i]? = some (some (.io c)) → ∃ c', env'[i]? = some (some (.io c'))
  io' : ∀ (i : Nat) (c' : C), env'[i]? = some (some (.io c')) → ∃ c, env[i]? = some (some (.io c))
theorem Le.refl (env : En) : Le env env := ⟨rfl, fun _ s c e ec => ⟨s, c, e, ec⟩, fun _ c e => ⟨c, e⟩, fun _ c e => ⟨c, e⟩⟩
theorem Le.trans {a b c : En} (x : Le a b) (y : Le b c) : Le a c :=
  ⟨y.len.trans x.len, fun i s k e ek => let ⟨_, _, e1, e2⟩ := y.own i s k e ek; x.own i _ _ e1 e2, fun i k e => let ⟨_, e1⟩ := x.io i k e; y.io i _ e1, fun i k e => let ⟨_, e1⟩ := y.io' i k e; x.io' i _ e1⟩
theorem Le.fp {env env' : En} {σ : L2.St} (x : Le env env') {a : Addr} (h : Fp σ env' a) : Fp σ env a :=
  let ⟨i, s, c, e1, e2, e3⟩ := h
  let ⟨s', c', e4, e5⟩ := x.own i s c e1 e2
  ⟨i, s', c', e4, e5, e3⟩
/-- from the slots env over G, H to env' over G', H' -/
structure Stp (Γ : Gm) (σ : L2.St) (G H : Hp) (env : En) (G' H' : Hp) (env' : En) : Prop where
  rel : Rel Γ G' H' σ env'
  keep : Keep G H (Fp σ env) G' H'
  le : Le env env'
theorem Stp.refl {Γ : Gm} {σ : L2.St} {G H : Hp} {env : En} (R : Rel Γ G H σ env) : Stp Γ σ G H env G H env := ⟨R, .refl, .refl _⟩
theorem Stp.trans {Γ : Gm} {σ : L2.St} {G H G1 H1 G2 H2 : Hp} {env env1 env2 : En} (a : Stp Γ σ G H env G1 H1 env1) (b : Stp Γ σ G1 H1 env1 G2 H2 env2) : Stp Γ σ G H env G2 H2 env2 :=
  ⟨b.rel, a.keep.trans b.keep fun _ f => .inl (a.le.fp f), a.le.trans b.le⟩
/-- a new frozen object -/
theorem Stp.lay {Γ : Gm} {σ : L2.St} {G H : Hp} {env : En} (R : Rel Γ G H σ env) {p : Addr} {o : HO} (hp : H p = none) : Stp Γ σ G H env (upd G p o) (upd H p o) env := ⟨R.lay hp, .lay R.gh hp, .refl _⟩
theorem Stp.lay' {Γ : Gm} {σ : L2.St} {G H : Hp} {env : En} (R : Rel Γ G H σ env) {p : Addr} {o : HO} (hp : H p = none) : Stp Γ σ G H env G (upd H p o) env := ⟨R.lay' hp, .lay' hp, .refl _⟩

/-- what an expression's value is -/
def RR (Γ : Gm) (H0 G' H' : Hp) (σ : L2.St) (v : V) : R → Prop
  | .d x => Rep Γ G' v x
  | .own c => Cel Γ G' H' v c ∧ ∀ a, v = .ref a → H0 a = none
  | .bor i => σ[i]? = some (some v)
def WR (Γ : Gm) (G' : Hp) (σ : L2.St) (v : V) : W → Prop
  | .d x => Rep Γ G' v x
  | .bor i => σ[i]? = some (some v)
theorem WR.mono {Γ : Gm} {G G' : Hp} {σ : L2.St} {v : V} {w : W} (h : WR Γ G σ v w) (e : Same G G') : WR Γ G' σ v w := by
  cases w with
  | d x => exact Rep.mono e _ _ h
  | bor i => exact h
theorem WR.rr {Γ : Gm} {H0 G H : Hp} {σ : L2.St} {v : V} {w : W} (h : WR Γ G σ v w) : RR Γ H0 G H σ v w.r := by
  cases w with
  | d x => exact h
  | bor i => exact h
theorem Cel.obj {Γ : Gm} {G H : Hp} {v : V} {c : C} (h : Cel Γ G H v c) : ∃ a o, v = .ref a ∧ G a = none ∧ H a = some o ∧ Rep Γ (upd G a o) v c.toD := by
  obtain ⟨a, rfl, g, hc⟩ := h
  cases c with
  | lst l =>
    obtain ⟨xs, e, r⟩ := hc
    exact ⟨a, _, rfl, g, e, .lst upd_same (r.mono (same_upd g))⟩
  | dct l =>
    obtain ⟨es, ep, ks, vs, e, s, k, v, r1, r2⟩ := hc
    exact ⟨a, _, rfl, g, e, .dct upd_same s k v (r1.mono (same_upd g)) (r2.mono (same_upd g))⟩
/-- a new thing that no slot owns is frozen -/
theorem Stp.frz {Γ : Gm} {σ : L2.St} {G0 H0 G H : Hp} {env0 env : En} {v : V} {c : C} (R0 : Rel Γ G0 H0 σ env0) (st : Stp Γ σ G0 H0 env0 G H env) (h : Cel Γ G H v c) (hf : ∀ a, v = .ref a → H0 a = none) :
    ∃ G', Stp Γ σ G0 H0 env0 G' H env ∧ Rep Γ G' v c.toD ∧ Same G G' := by
  obtain ⟨a, o, rfl, g, e, r⟩ := h.obj
  have nf : ¬ Fp σ env a := fun f => (R0.fp_g (st.le.fp f)).2 (hf a rfl)
  refine ⟨upd G a o, ⟨st.rel.keep (same_upd g) (fun b q z => ?_) (fun b f => ?_) (fun b q _ z => z), ⟨st.keep.ss.trans (same_upd g), st.keep.fr, fun b z => ?_, st.keep.up⟩, st.le⟩, r, same_upd g⟩
  · by_cases hb : b = a
    · subst hb; rw [upd_same] at z; cases z; exact e
    · rw [upd_ne hb] at z; exact st.rel.gh _ _ z
  · have hb : b ≠ a := fun z => by subst z; exact nf f
    rw [upd_ne hb]; exact (st.rel.fp_g f).1
  · by_cases hb : b = a
    · subst hb; exact .inr (.inl (hf _ rfl))
    · rw [upd_ne hb] at z; exact st.keep.nw b z

/-- the top of the value read where it stands now, its parts frozen -/
def TopR (Γ : Gm) (G H : Hp) (v : V) : D → Prop
  | .lst ds => ∃ a xs, v = .ref a ∧ H a = some (.lst xs) ∧ RepAll Γ G xs ds
  | .dct kvs => ∃ a es ep ks vs, v = .ref a ∧ H a = some (dO a es ep) ∧ DOk Γ.w es kvs ∧ Vals ks (es.toList.map (·.key)) ∧ Vals vs (es.toList.map (·.val)) ∧ RepAll Γ G ks (kvs.map (·.1)) ∧ RepAll Γ G vs (kvs.map (·.2))
  | x => Rep Γ G v x
theorem Rep.top {Γ : Gm} {G H : Hp} {v : V} {x : D} (gh : Same G H) (h : Rep Γ G v x) : TopR Γ G H v x := by
  cases h with
  | lst h r => exact ⟨_, _, rfl, gh _ _ h, r⟩
  | scr h => exact .scr h
  | dct h s k v r1 r2 => exact ⟨_, _, _, _, _, rfl, gh _ _ h, s, k, v, r1, r2⟩
  | non => exact .non
  | bl b => exact .bl b
  | int i => exact .int i
  | str s => exact .str s
  | tup h r => exact .tup h r
  | ins h k r => exact .ins h k r
theorem Cel.top {Γ : Gm} {G H : Hp} {v : V} {c : C} (h : Cel Γ G H v c) : TopR Γ G H v c.toD := by
  obtain ⟨a, rfl, g, hc⟩ := h
  cases c with
  | lst l => obtain ⟨xs, e, r⟩ := hc; exact ⟨a, xs, rfl, e, r⟩
  | dct l => obtain ⟨es, ep, ks, vs, e, s, k, v, r1, r2⟩ := hc; exact ⟨a, es, ep, ks, vs, rfl, e, s, k, v, r1, r2⟩
theorem TopR.rep {Γ : Gm} {G H : Hp} {v : V} {x : D} (gh : Same G H) (h : TopR Γ G H v x) : Rep Γ H v x := by
  cases x with
  | lst ds => obtain ⟨a, xs, rfl, h, r⟩ := h; exact .lst h (r.mono gh)
  | dct kvs => obtain ⟨a, es, ep, ks, vs, rfl, e, s, k, v, r1, r2⟩ := h; exact .dct e s k v (r1.mono gh) (r2.mono gh)
  | _ => exact Rep.mono gh _ _ h
theorem val_top {Γ : Gm} {σ : L2.St} {G H : Hp} {env : En} {v : V} {w : W} {x : D} (R : Rel Γ G H σ env) (h : WR Γ G σ v w) (e : val env w = some x) : TopR Γ G H v x := by
  cases w with
  | d y => cases e; exact Rep.top R.gh h
  | bor i =>
    have e : (match env[i]? with
      | some (some (.d x)) => some x
      | some (some (.own c)) => some c.toD
      | some (some (.io c)) => some c.toD
      | _ => none) = some x := e
    cases q : env[i]? with
    | none => rw [q] at e; cases e
    | some o =>
      cases o with
      | none => rw [q] at e; cases e
      | some s =>
        rw [q] at e
        obtain ⟨v', e1, r⟩ := R.slot i s q
        have h : σ[i]? = some (some v) := h
        rw [h] at e1
        cases e1
        cases s with
        | d y => cases e; exact Rep.top R.gh r
        | own c => cases e; exact Cel.top r
        | io c => cases e; exact Cel.top r

/-! ### the readings -/
section
variable (Γ : Gm)
def tX (ev : En → Res En R) : TE := fun σ H Q => ∃ G env, Rel Γ G H σ env ∧ match ev env with
  | .ok r env' => ∀ v G' H', Stp Γ σ G H env G' H' env' → RR Γ H G' H' σ v r → Sz Γ.K H' → Q v H'
  | _ => False
def tW (ev : En → Res En W) : TE := fun σ H Q => ∃ G env, Rel Γ G H σ env ∧ match ev env with
  | .ok r env' => ∀ v G' H', Stp Γ σ G H env G' H' env' → WR Γ G' σ v r → Sz Γ.K H' → Q v H'
  | _ => False
def tV (ev : En → Res En D) : TE := fun σ H Q => ∃ G env, Rel Γ G H σ env ∧ match ev env with
  | .ok x env' => ∀ v G' H', Stp Γ σ G H env G' H' env' → TopR Γ G' H' v x → Sz Γ.K H' → Q v H'
  | _ => False
def tT (ev : En → Res En Bool) : TT := fun σ H Q => ∃ G env, Rel Γ G H σ env ∧ match ev env with
  | .ok b env' => ∀ G' H', Stp Γ σ G H env G' H' env' → Sz Γ.K H' → Q b H'
  | _ => False
end
section
variable {X : Cx} {cl : Nat → Addr} {e : Expr} {ev : En → Res En R}
theorem pe_tW (h : PE X e (tX (gm X cl) ev)) : PE X e (tW (gm X cl) fun env => (ev env).frz) := by
  refine pe_imp h fun σ H Q ⟨G, env, R, m⟩ => ⟨G, env, R, ?_⟩
  have m : (match (ev env).frz with
    | .ok r env' => ∀ v G' H', Stp (gm X cl) σ G H env G' H' env' → WR (gm X cl) G' σ v r → Sz X.K H' → Q v H'
    | _ => False) := m
  cases q : ev env with
  | ok r env' =>
    rw [q] at m
    intro v G' H' st rr sz
    cases r with
    | d x => exact m v G' H' st rr sz
    | bor i => exact m v G' H' st rr sz
    | own c =>
      obtain ⟨G2, st2, r2, _⟩ := st.frz R rr.1 rr.2
      exact m v G2 H' st2 r2 sz
  | exc x s => rw [q] at m; exact m
  | stuck => rw [q] at m; exact m
theorem pe_tV {ev : En → Res En W} (h : PE X e (tW (gm X cl) ev)) : PE X e (tV (gm X cl) fun env => (ev env).bind fun x env => lift (val env x) env) := by
  refine pe_imp h fun σ H Q ⟨G, env, R, m⟩ => ⟨G, env, R, ?_⟩
  have m : (match (ev env).bind fun x env => lift (val env x) env with
    | .ok r env' => ∀ v G' H', Stp (gm X cl) σ G H env G' H' env' → TopR (gm X cl) G' H' v r → Sz X.K H' → Q v H'
    | _ => False) := m
  cases q : ev env with
  | ok r env' =>
    rw [q] at m
    intro v G' H' st rr sz
    cases q2 : val env' r with
    | none =>
      rw [Res.bind_ok, q2] at m
      exact m.elim
    | some x =>
      rw [Res.bind_ok, q2] at m
      exact m v G' H' st (val_top st.rel rr q2) sz
  | exc x s => rw [q] at m; exact m
  | stuck => rw [q] at m; exact m
theorem val_eq (ev : En → Res En R) : (fun env => (ev env).val) = fun env => ((ev env).frz).bind fun x env => lift (val env x) env := by
  funext env
  cases q : ev env <;> simp [Res.val, Res.frz]
theorem pe_tX_V (h : PE X e (tX (gm X cl) ev)) : PE X e (tV (gm X cl) fun env => (ev env).val) := by
  rw [val_eq]
  exact pe_tV (pe_tW h)
end
end Tk

set_option Elab.async false
set_option linter.all false
set_option maxRecDepth 100000
set_option maxHeartbeats 2000000
/-! Ir3: operators. -/
namespace Tk
open PySem PySem.Spec L2

/-! ### data as the library reads them -/
section
variable {Γ : Gm} {H : Hp}
mutual
theorem Rep.dp : ∀ (n : Nat) (x : D) (v : V), D.shp n x = true → Rep Γ H v x → Dp Γ.K H v x.py
  | _, .non, _, _, r => by cases r; exact .non
  | _, .bl _, _, _, r => by cases r; exact .bl _
  | _, .int _, _, _, r => by cases r; exact .int _
  | _, .str _, _, _, r => by cases r; exact .str _
  | 0, .tup l, _, h, _ => by simp [D.shp] at h
  | n + 1, .tup l, _, h, r => by
    cases r with
    | tup a b => exact .tup a (RepAll.dp n l _ (by simpa [D.shp] using h) b)
  | 0, .lst l, _, h, _ => by simp [D.shp] at h
  | n + 1, .lst l, _, h, r => by
    cases r with
    | lst a b => exact .lst (.inl (.inl a)) (RepAll.dp n l _ (by simpa [D.shp] using h) b)
  | _, .dct _, _, h, _ => by simp [D.shp] at h
  | _, .ins _ _, _, h, _ => by simp [D.shp] at h
  | _, .scr _, _, h, _ => by simp [D.shp] at h
theorem RepAll.dp : ∀ (n : Nat) (l : List D) (vs : List V), D.shps n l = true → RepAll Γ H vs l → DpAll Γ.K H vs (D.pys l)
  | _, [], _, _, r => by cases r; exact .nil
  | n, d :: l, _, h, r => by
    rw [D.shps, Bool.and_eq_true] at h
    cases r with
    | cons a b => exact .cons (Rep.dp n d _ h.1 a) (RepAll.dp n l _ h.2 b)
end
end
mutual
theorem shp_lay : ∀ (n : Nat) (x : D), D.shp n x = true → x.py.canLay0 = true ∧ x.py.depth ≤ n
  | _, .non, _ => by simp [D.py, PyData.canLay0, PyData.depth]
  | _, .bl _, _ => by simp [D.py, PyData.canLay0, PyData.depth]
  | _, .int _, _ => by simp [D.py, PyData.canLay0, PyData.depth]
  | _, .str s, h => by
    have h : s.cps.all (· < 0x110000) = true := by simpa [D.shp] using h
    exact ⟨by simp only [D.py, PyData.canLay0]; exact h, by simp [D.py, PyData.depth]⟩
  | 0, .tup l, h => by simp [D.shp] at h
  | n + 1, .tup l, h => by
    obtain ⟨a, b⟩ := shps_lay n l (by simpa [D.shp] using h)
    exact ⟨by simpa only [D.py, PyData.canLay0] using a, by simp only [D.py, PyData.depth]; omega⟩
  | 0, .lst l, h => by simp [D.shp] at h
  | n + 1, .lst l, h => by
    obtain ⟨a, b⟩ := shps_lay n l (by simpa [D.shp] using h)
    exact ⟨by simpa only [D.py, PyData.canLay0] using a, by simp only [D.py, PyData.depth]; omega⟩
  | _, .dct _, h => by simp [D.shp] at h
  | _, .ins _ _, h => by simp [D.shp] at h
  | _, .scr _, h => by simp [D.shp] at h
theorem shps_lay : ∀ (n : Nat) (l : List D), D.shps n l = true → PyData.canLayAll0 (D.pys l) = true ∧ PyData.depthAll (D.pys l) ≤ n
  | _, [], _ => by simp [D.pys, PyData.canLayAll0, PyData.depthAll]
  | n, d :: l, h => by
    rw [D.shps, Bool.and_eq_true] at h
    obtain ⟨a, b⟩ := shp_lay n d h.1
    obtain ⟨a2, b2⟩ := shps_lay n l h.2
    exact ⟨by simp [D.pys, PyData.canLayAll0, a, a2], by simp only [D.pys, PyData.depthAll]; omega⟩
end
theorem shp_shaped {n : Nat} (hn : n ≤ 64) {x : D} (h : D.shp n x = true) : SeqAt.shaped x.py = true := by
  obtain ⟨a, b⟩ := shp_lay n x h
  show (x.py.canLay0 && decide (x.py.depth ≤ 64)) = true
  rw [a, Bool.true_and]
  exact decide_eq_true (by omega)
mutual
theorem eqv_py : ∀ (a b : D), D.eqv a b = PyData.eqv a.py b.py
  | .non, b => by cases b <;> simp [D.eqv, D.py, PyData.eqv]
  | .bl x, b => by cases b <;> simp [D.eqv, D.py, PyData.eqv]
  | .int x, b => by cases b <;> simp [D.eqv, D.py, PyData.eqv]
  | .str x, b => by cases b <;> simp [D.eqv, D.py, PyData.eqv]
  | .tup l, b => by
    cases b with
    | tup m => simp only [D.eqv, D.py, PyData.eqv]; exact eqvs_py l m
    | _ => simp [D.eqv, D.py, PyData.eqv]
  | .lst l, b => by
    cases b with
    | lst m => simp only [D.eqv, D.py, PyData.eqv]; exact eqvs_py l m
    | _ => simp [D.eqv, D.py, PyData.eqv]
  | .dct l, b => by cases b <;> simp [D.eqv, D.py, PyData.eqv]
  | .ins _ _, b => by cases b <;> simp [D.eqv, D.py, PyData.eqv]
  | .scr _, b => by cases b <;> simp [D.eqv, D.py, PyData.eqv]
theorem eqvs_py : ∀ (a b : List D), D.eqvs a b = PyData.eqvAll (D.pys a) (D.pys b)
  | [], [] => by simp [D.eqvs, D.pys, PyData.eqvAll]
  | [], _ :: _ => by simp [D.eqvs, D.pys, PyData.eqvAll]
  | _ :: _, [] => by simp [D.eqvs, D.pys, PyData.eqvAll]
  | x :: a, y :: b => by
    simp only [D.eqvs, D.pys, PyData.eqvAll]
    rw [eqv_py x y, eqvs_py a b]
end
theorem pys_map : ∀ l : List D, D.pys l = l.map D.py
  | [] => rfl
  | d :: l => by simp [D.pys, pys_map l]

/-! ### operators by data -/
section
variable {X : Cx} {cl : Nat → Addr}
/-- what an operation on values does, said of data -/
def OpD (X : Cx) (cl : Nat → Addr) (f : Value → Value → Sem Value) (g : D → D → Option R) : Prop :=
  ∃ r : R2, OpR X f r ∧ ∀ (σ : L2.St) (env : En) (G H : Hp) (v1 v2 : V) (x y : D) (res : R) (Q : VK), Rel (gm X cl) G H σ env → Sz X.K H → TopR (gm X cl) G H v1 x → TopR (gm X cl) G H v2 y → g x y = some res →
    (∀ v G' H', Stp (gm X cl) σ G H env G' H' env → RR (gm X cl) H G' H' σ v res → Q v H') → r v1 v2 H Q
theorem RR.back {Γ : Gm} {H0 H G' H' : Hp} {σ : L2.St} {v : V} {r : R} (h : RR Γ H G' H' σ v r) (up : ∀ a, H0 a ≠ none → H a ≠ none) : RR Γ H0 G' H' σ v r := by
  cases r with
  | d x => exact h
  | bor i => exact h
  | own c =>
    refine ⟨h.1, fun a e => ?_⟩
    cases q : H0 a with
    | none => rfl
    | some o => exact absurd (h.2 a e) (up a (by rw [q]; exact fun z => nomatch z))
theorem two_ev {r : R2} {g : D → D → Option R} {ea eb : En → Res En W}
    (h : ∀ (σ : L2.St) (env : En) (G H : Hp) (v1 v2 : V) (x y : D) (res : R) (Q : VK), Rel (gm X cl) G H σ env → Sz X.K H → TopR (gm X cl) G H v1 x → TopR (gm X cl) G H v2 y → g x y = some res →
      (∀ v G' H', Stp (gm X cl) σ G H env G' H' env → RR (gm X cl) H G' H' σ v res → Q v H') → r v1 v2 H Q) (σ : L2.St) (H : Hp) (Q : VK)
    (z : tX (gm X cl) (fun env => (ea env).bind fun x env1 => (eb env1).bind fun y env2 => lift ((val env2 x).bind fun u => (val env2 y).bind fun w => g u w) env2) σ H Q) :
    tOp r (tW (gm X cl) ea) (tW (gm X cl) eb) σ H (fun v H' => Sz X.K H' → Q v H') := by
  obtain ⟨G, env, R0, m⟩ := z
  refine ⟨G, env, R0, ?_⟩
  dsimp only at m
  cases qa : ea env with
  | ok x env1 =>
    rw [qa] at m
    intro v1 G1 H1 s1 w1 z1
    refine ⟨G1, env1, s1.rel, ?_⟩
    rw [Res.bind_ok] at m
    cases qb : eb env1 with
    | ok y env2 =>
      rw [qb] at m
      intro v2 G2 H2 s2 w2 z2
      rw [Res.bind_ok] at m
      cases q1 : val env2 x with
      | none => rw [q1] at m; exact m.elim
      | some u =>
        cases q2 : val env2 y with
        | none => rw [q1, q2] at m; exact m.elim
        | some w =>
          cases q3 : g u w with
          | none => rw [q1, q2] at m; dsimp only [Option.bind] at m; rw [q3] at m; exact m.elim
          | some res =>
            rw [q1, q2] at m; dsimp only [Option.bind] at m; rw [q3] at m
            refine h σ env2 G2 H2 v1 v2 u w res _ s2.rel z2 (val_top s2.rel (w1.mono s2.keep.ss) q1) (val_top s2.rel w2 q2) q3 fun v G' H' s3 rr sz => ?_
            exact m v G' H' ((s1.trans s2).trans s3) (rr.back fun a e => s2.keep.up a (s1.keep.up a e)) sz
    | exc x s => rw [qb] at m; exact m.elim
    | stuck => rw [qb] at m; exact m.elim
  | exc x s => rw [qa] at m; exact m.elim
  | stuck => rw [qa] at m; exact m.elim
theorem s_bin {op : Operator} {g : D → D → Option R} {a b : Expr} {pos : Pos} {ea eb : En → Res En W} (o : OpD X cl (binaryOp op) g) (ha : PE X a (tW (gm X cl) ea)) (hb : PE X b (tW (gm X cl) eb)) :
    PE X (.BinOp a op b pos) (tX (gm X cl) fun env => (ea env).bind fun x env1 => (eb env1).bind fun y env2 => lift ((val env2 x).bind fun u => (val env2 y).bind fun w => g u w) env2) :=
  let ⟨r, h1, h2⟩ := o
  pe_imp (pe_sz (pe_op h1 ha hb)) (two_ev h2)
theorem OpD.or {f : Value → Value → Sem Value} {g g' : D → D → Option R} (h : OpD X cl f g) (h' : OpD X cl f g') : OpD X cl f (fun x y => (g x y).or (g' x y)) := by
  obtain ⟨r, a, b⟩ := h
  obtain ⟨r', a', b'⟩ := h'
  refine ⟨_, OpR.or a a', fun σ env G H v1 v2 x y res Q R0 z t1 t2 e k => ?_⟩
  have e : (g x y).or (g' x y) = some res := e
  cases q : g x y with
  | some u => rw [q] at e; cases e; exact .inl (b σ env G H v1 v2 x y _ Q R0 z t1 t2 q k)
  | none => rw [q] at e; exact .inr (b' σ env G H v1 v2 x y _ Q R0 z t1 t2 (by simpa using e) k)
theorem OpD.weak {f : Value → Value → Sem Value} {g g' : D → D → Option R} (h : OpD X cl f g) (i : ∀ x y r, g' x y = some r → g x y = some r) : OpD X cl f g' :=
  let ⟨r, a, b⟩ := h
  ⟨r, a, fun σ env G H v1 v2 x y res Q R0 z t1 t2 e k => b σ env G H v1 v2 x y res Q R0 z t1 t2 (i _ _ _ e) k⟩
section
variable {Γ : Gm} {G H : Hp} {v : V}
theorem top_non (h : TopR Γ G H v .non) : v = .non := by cases h; rfl
theorem top_bl {b : Bool} (h : TopR Γ G H v (.bl b)) : v = .bl b := by cases h; rfl
theorem top_int {i : Int} (h : TopR Γ G H v (.int i)) : v = .int i := by cases h; rfl
theorem top_str {s : Str} (h : TopR Γ G H v (.str s)) : v = .str s := by cases h; rfl
theorem top_tup {l : List D} (h : TopR Γ G H v (.tup l)) : ∃ a xs, v = .ref a ∧ SqT Γ.K G a xs ∧ RepAll Γ G xs l := by
  have h : Rep Γ G v (.tup l) := h
  cases h with
  | tup a b => exact ⟨_, _, rfl, a, b⟩
theorem top_scr {l : List Int} (h : TopR Γ G H v (.scr l)) : ∃ a, v = .ref a ∧ SqL Γ.K G a (l.map V.int) := by
  have h : Rep Γ G v (.scr l) := h
  cases h with
  | scr a => exact ⟨_, rfl, a⟩
end
section
variable {σ : L2.St} {env : En} {G H : Hp}
/-- a datum that needs no heap comes out -/
theorem k_sc {Γ : Gm} {d : D} {v : V} {Q : VK} (R0 : Rel Γ G H σ env) (k : ∀ v G' H', Stp Γ σ G H env G' H' env → RR Γ H G' H' σ v (.d d) → Q v H') (h : Rep Γ G v d) : Q v H := k v G H (.refl R0) h
/-- a new frozen tuple comes out -/
theorem k_tup {Γ : Gm} {l : List D} {xs : List V} {Q : VK} (R0 : Rel Γ G H σ env) (k : ∀ v G' H', Stp Γ σ G H env G' H' env → RR Γ H G' H' σ v (.d (.tup l)) → Q v H') (h : RepAll Γ G xs l) : ∀ p, H p = none → Q (.ref p) (upd H p (.tup xs)) := fun p hp =>
  k _ _ _ (.lay R0 hp) (.tup (.inl (.inl upd_same)) (h.mono (same_upd (R0.gh.free hp))))
/-- a new list comes out -/
theorem k_lst {Γ : Gm} {l : List D} {xs : List V} {Q : VK} (R0 : Rel Γ G H σ env) (k : ∀ v G' H', Stp Γ σ G H env G' H' env → RR Γ H G' H' σ v (.own (.lst l)) → Q v H') (h : RepAll Γ G xs l) : ∀ p, H p = none → Q (.ref p) (upd H p (.lst xs)) := fun p hp =>
  k _ _ _ (.lay' R0 hp) ⟨⟨p, rfl, R0.gh.free hp, xs, upd_same, h⟩, fun a e => by cases e; exact hp⟩
end

theorem o_add : OpD X cl (binaryOp .Add) (binD .add) := by
  refine ⟨_, OpR.or (OpR.or op_add op_add_str) (OpR.or op_cat op_catA), fun σ env G H v1 v2 x y res Q R0 z t1 t2 e k => ?_⟩
  cases x <;> cases y <;> simp only [binD, reduceCtorEq, Option.some.injEq, Option.ite_none_right_eq_some] at e
  case int.int i j =>
    subst e
    cases top_int t1; cases top_int t2
    exact .inl (.inl ⟨i, j, rfl, rfl, k_sc R0 k (.int _)⟩)
  case str.str i j =>
    obtain ⟨hl, rfl⟩ := e
    cases top_str t1; cases top_str t2
    exact .inl (.inr ⟨i, j, rfl, rfl, hl, k_sc R0 k (.str _)⟩)
  case tup.tup l m =>
    obtain ⟨hl, rfl⟩ := e
    obtain ⟨a, xs, rfl, h1, r1⟩ := top_tup t1
    obtain ⟨b, ys, rfl, h2, r2⟩ := top_tup t2
    have e1 := r1.length
    have e2 := r2.length
    refine .inr (.inr ⟨a, b, xs, ys, rfl, rfl, same_sqT R0.gh h1, same_sqT R0.gh h2, by omega, fun q => ?_, fun _ q => ?_, fun _ _ => k_tup R0 k (r1.append r2)⟩)
    · subst q
      cases l with
      | nil => exact k_sc R0 k (.tup h2 r2)
      | cons _ _ => cases r1
    · subst q
      cases m with
      | nil => rw [List.append_nil] at k; exact k_sc R0 k (.tup h1 r1)
      | cons _ _ => cases r2
  case lst.lst l m =>
    obtain ⟨hl, rfl⟩ := e
    obtain ⟨a, xs, rfl, h1, r1⟩ := t1
    obtain ⟨b, ys, rfl, h2, r2⟩ := t2
    have e1 := r1.length
    have e2 := r2.length
    exact .inr (.inl ⟨a, b, xs, ys, rfl, rfl, h1, h2, by omega, k_lst R0 k (r1.append r2)⟩)
theorem o_sub : OpD X cl (binaryOp .Sub) (binD .sub) := by
  refine ⟨_, op_sub, fun σ env G H v1 v2 x y res Q R0 z t1 t2 e k => ?_⟩
  cases x <;> cases y <;> simp only [binD, reduceCtorEq, Option.some.injEq] at e
  subst e
  cases top_int t1; cases top_int t2
  exact ⟨_, _, rfl, rfl, k_sc R0 k (.int _)⟩
theorem o_mul : OpD X cl (binaryOp .Mult) (binD .mul) := by
  refine ⟨_, OpR.or op_mul op_rep, fun σ env G H v1 v2 x y res Q R0 z t1 t2 e k => ?_⟩
  cases x <;> cases y <;> simp only [binD, reduceCtorEq, Option.some.injEq, Option.ite_none_right_eq_some] at e
  case int.int i j =>
    obtain ⟨hl, rfl⟩ := e
    cases top_int t1; cases top_int t2
    exact .inl ⟨i, j, rfl, rfl, hl, k_sc R0 k (.int _)⟩
  case lst.int l j =>
    obtain ⟨⟨h1, h2, h3⟩, rfl⟩ := e
    obtain ⟨a, xs, rfl, h, r⟩ := t1
    cases top_int t2
    have e1 := r.length
    exact .inr ⟨a, j, xs, rfl, rfl, h, h1, h2, by rw [e1]; exact h3, k_lst R0 k (r.rep _)⟩
theorem o_fdiv : OpD X cl (binaryOp .FloorDiv) (binD .fdiv) := by
  refine ⟨_, op_fdiv, fun σ env G H v1 v2 x y res Q R0 z t1 t2 e k => ?_⟩
  cases x <;> cases y <;> simp only [binD, reduceCtorEq, Option.some.injEq, Option.ite_none_right_eq_some] at e
  obtain ⟨hl, rfl⟩ := e
  cases top_int t1; cases top_int t2
  exact ⟨_, _, rfl, rfl, hl, k_sc R0 k (.int _)⟩
theorem o_mod : OpD X cl (binaryOp .Mod) (binD .mod) := by
  refine ⟨_, op_mod, fun σ env G H v1 v2 x y res Q R0 z t1 t2 e k => ?_⟩
  cases x <;> cases y <;> simp only [binD, reduceCtorEq, Option.some.injEq, Option.ite_none_right_eq_some] at e
  obtain ⟨hl, rfl⟩ := e
  cases top_int t1; cases top_int t2
  exact ⟨_, _, rfl, rfl, hl, k_sc R0 k (.int _)⟩
theorem o_pow : OpD X cl (binaryOp .Pow) (binD .pow) := by
  refine ⟨_, op_pow, fun σ env G H v1 v2 x y res Q R0 z t1 t2 e k => ?_⟩
  cases x <;> cases y <;> simp only [binD, reduceCtorEq, Option.some.injEq, Option.ite_none_right_eq_some] at e
  obtain ⟨hl, rfl⟩ := e
  cases top_int t1; cases top_int t2
  exact ⟨_, _, rfl, rfl, hl, k_sc R0 k (.int _)⟩
/-! ### comparisons -/
def cR (o : COp) (x y : D) : Option R := (cmpD o x y).map fun k => .d (.bl k)
theorem cR_eq {o : COp} {x y : D} {r : R} (h : cR o x y = some r) : ∃ k, cmpD o x y = some k ∧ r = .d (.bl k) := by
  obtain ⟨k, a, b⟩ := Option.map_eq_some_iff.mp h
  exact ⟨k, a, b.symm⟩
theorem eqD_some {x y : D} {k : Bool} (h : eqD x y = some k) : D.shp 60 x = true ∧ D.shp 60 y = true ∧ k = PyData.eqv x.py y.py := by
  unfold eqD at h
  split at h
  · rename_i q
    rw [Bool.and_eq_true] at q
    cases h
    exact ⟨q.1, q.2, eqv_py x y⟩
  · cases h
theorem o_eq (hu : X.A.units + 64 < cLine) : OpD X cl (compareOp .Eq) (cR .eq) := by
  refine ⟨_, op_eqD hu, fun σ env G H v1 v2 x y res Q R0 z t1 t2 e k => ?_⟩
  obtain ⟨b, e1, rfl⟩ := cR_eq e
  obtain ⟨s1, s2, rfl⟩ := eqD_some e1
  exact ⟨x.py, y.py, Rep.dp _ _ _ s1 (t1.rep R0.gh), Rep.dp _ _ _ s2 (t2.rep R0.gh), shp_shaped (by decide) s1, shp_shaped (by decide) s2, k_sc R0 k (.bl _)⟩
theorem o_ne (hu : X.A.units + 64 < cLine) : OpD X cl (compareOp .NotEq) (cR .ne) := by
  refine ⟨_, op_neD hu, fun σ env G H v1 v2 x y res Q R0 z t1 t2 e k => ?_⟩
  obtain ⟨b, e1, rfl⟩ := cR_eq e
  obtain ⟨b', e2, rfl⟩ := Option.map_eq_some_iff.mp e1
  obtain ⟨s1, s2, rfl⟩ := eqD_some e2
  exact ⟨x.py, y.py, Rep.dp _ _ _ s1 (t1.rep R0.gh), Rep.dp _ _ _ s2 (t2.rep R0.gh), shp_shaped (by decide) s1, shp_shaped (by decide) s2, k_sc R0 k (.bl _)⟩
theorem o_lt : OpD X cl (compareOp .Lt) (cR .lt) := by
  refine ⟨_, OpR.or op_lt op_lt_str, fun σ env G H v1 v2 x y res Q R0 z t1 t2 e k => ?_⟩
  obtain ⟨b, e1, rfl⟩ := cR_eq e
  cases x <;> cases y <;> simp only [cmpD, reduceCtorEq, Option.some.injEq] at e1 <;> subst e1
  · cases top_int t1; cases top_int t2
    exact .inl ⟨_, _, rfl, rfl, k_sc R0 k (.bl _)⟩
  · cases top_str t1; cases top_str t2
    exact .inr ⟨_, _, rfl, rfl, k_sc R0 k (.bl _)⟩
theorem o_le : OpD X cl (compareOp .LtE) (cR .le) := by
  refine ⟨_, op_le, fun σ env G H v1 v2 x y res Q R0 z t1 t2 e k => ?_⟩
  obtain ⟨b, e1, rfl⟩ := cR_eq e
  cases x <;> cases y <;> simp only [cmpD, reduceCtorEq, Option.some.injEq] at e1 <;> subst e1
  cases top_int t1; cases top_int t2
  exact ⟨_, _, rfl, rfl, k_sc R0 k (.bl _)⟩
theorem o_gt : OpD X cl (compareOp .Gt) (cR .gt) := by
  refine ⟨_, op_gt, fun σ env G H v1 v2 x y res Q R0 z t1 t2 e k => ?_⟩
  obtain ⟨b, e1, rfl⟩ := cR_eq e
  cases x <;> cases y <;> simp only [cmpD, reduceCtorEq, Option.some.injEq] at e1 <;> subst e1
  cases top_int t1; cases top_int t2
  exact ⟨_, _, rfl, rfl, k_sc R0 k (.bl _)⟩
theorem o_ge : OpD X cl (compareOp .GtE) (cR .ge) := by
  refine ⟨_, op_ge, fun σ env G H v1 v2 x y res Q R0 z t1 t2 e k => ?_⟩
  obtain ⟨b, e1, rfl⟩ := cR_eq e
  cases x <;> cases y <;> simp only [cmpD, reduceCtorEq, Option.some.injEq] at e1 <;> subst e1
  cases top_int t1; cases top_int t2
  exact ⟨_, _, rfl, rfl, k_sc R0 k (.bl _)⟩
theorem o_is : OpD X cl (compareOp .Is) (cR .is) := by
  refine ⟨_, op_isN, fun σ env G H v1 v2 x y res Q R0 z t1 t2 e k => ?_⟩
  obtain ⟨b, e1, rfl⟩ := cR_eq e
  cases y <;> simp only [cmpD, reduceCtorEq, Option.some.injEq] at e1 <;> subst e1
  cases top_non t2
  refine ⟨rfl, ?_⟩
  have q : decide (v1 = V.non) = x.isNon := by
    cases x with
    | non => cases top_non t1; rfl
    | bl b => cases top_bl t1; rfl
    | int b => cases top_int t1; rfl
    | str b => cases top_str t1; rfl
    | tup l => obtain ⟨a, xs, rfl, _⟩ := top_tup t1; rfl
    | lst l => obtain ⟨a, xs, rfl, _⟩ := t1; rfl
    | dct l => obtain ⟨a, _, _, _, _, rfl, _⟩ := t1; rfl
    | scr l => obtain ⟨a, rfl, _⟩ := top_scr t1; rfl
    | ins c fs =>
      have t1 : Rep (gm X cl) G v1 (.ins c fs) := t1
      cases t1; rfl
  rw [q]
  exact k_sc R0 k (.bl _)
theorem o_isn : OpD X cl (compareOp .IsNot) (cR .isn) := by
  refine ⟨_, op_notN, fun σ env G H v1 v2 x y res Q R0 z t1 t2 e k => ?_⟩
  obtain ⟨b, e1, rfl⟩ := cR_eq e
  cases y <;> simp only [cmpD, reduceCtorEq, Option.some.injEq] at e1 <;> subst e1
  cases top_non t2
  refine ⟨rfl, ?_⟩
  have q : (!decide (v1 = V.non)) = !x.isNon := by
    cases x with
    | non => cases top_non t1; rfl
    | bl b => cases top_bl t1; rfl
    | int b => cases top_int t1; rfl
    | str b => cases top_str t1; rfl
    | tup l => obtain ⟨a, xs, rfl, _⟩ := top_tup t1; rfl
    | lst l => obtain ⟨a, xs, rfl, _⟩ := t1; rfl
    | dct l => obtain ⟨a, _, _, _, _, rfl, _⟩ := t1; rfl
    | scr l => obtain ⟨a, rfl, _⟩ := top_scr t1; rfl
    | ins c fs =>
      have t1 : Rep (gm X cl) G v1 (.ins c fs) := t1
      cases t1; rfl
  rw [q]
  exact k_sc R0 k (.bl _)
/-! ### in -/
theorem inD_some {x : D} {l : List D} {k : Bool} (h : inD x l = some k) : D.shp 60 x = true ∧ D.shps 59 l = true ∧ k = (D.pys l).any fun z => PyData.eqv z x.py := by
  unfold inD at h
  split at h
  · rename_i q
    rw [Bool.and_eq_true] at q
    cases h
    refine ⟨q.1, q.2, ?_⟩
    rw [pys_map, List.any_map]
    congr 1
    funext y
    exact eqv_py y x
  · cases h
theorem shps_shaped {l : List D} (h : D.shps 59 l = true) : SeqAt.shaped (.list (D.pys l)) = true ∧ SeqAt.shaped (.tuple (D.pys l)) = true := by
  have a : D.shp 60 (.lst l) = true := by simpa [D.shp] using h
  have b : D.shp 60 (.tup l) = true := by simpa [D.shp] using h
  have a' := shp_shaped (by decide) a
  have b' := shp_shaped (by decide) b
  simp only [D.py] at a' b'
  exact ⟨a', b'⟩
def rInT (K : PySem.W.Frag) (neg : Bool) : R2 := fun x y H Q => ∃ d ds, Dp K H x d ∧ Dp K H y (.tuple ds) ∧ SeqAt.shaped d = true ∧ SeqAt.shaped (.tuple ds) = true ∧ Q (.bl (if neg then !ds.any fun z => PyData.eqv z d else ds.any fun z => PyData.eqv z d)) H
theorem op_inT (hu : X.A.units + 65 < cLine) : OpR X (compareOp .In) (rInT X.K false) := by
  intro pins s σ H x y v u Q I rx ry h
  obtain ⟨d, ds, hd, he, sd, se, q⟩ := h
  obtain ⟨as, r1⟩ := Dp.reads I d x v hd rx
  obtain ⟨bs, r2⟩ := Dp.reads I (.tuple ds) y u he ry
  exact SeqAt.in_tuple_reads r2 r1 (SeqAt.canLay_of_shaped se) (SeqAt.canLay_of_shaped sd) (PyProof.Rows.room_in_shaped sd hu) ⟨.bl _, H, I, rfl, q⟩
theorem op_notInT (hu : X.A.units + 65 < cLine) : OpR X (compareOp .NotIn) (rInT X.K true) := by
  intro pins s σ H x y v u Q I rx ry h
  obtain ⟨d, ds, hd, he, sd, se, q⟩ := h
  obtain ⟨as, r1⟩ := Dp.reads I d x v hd rx
  obtain ⟨bs, r2⟩ := Dp.reads I (.tuple ds) y u he ry
  exact SeqAt.notIn_tuple_reads r2 r1 (SeqAt.canLay_of_shaped se) (SeqAt.canLay_of_shaped sd) (PyProof.Rows.room_in_shaped sd hu) ⟨.bl _, H, I, rfl, q⟩
theorem o_in (hu : X.A.units + 65 < cLine) : OpD X cl (compareOp .In) (cR .inn) := by
  refine ⟨_, OpR.or (OpR.or (op_inD hu) (op_inT hu)) op_in_str, fun σ env G H v1 v2 x y res Q R0 z t1 t2 e k => ?_⟩
  obtain ⟨b, e1, rfl⟩ := cR_eq e
  cases y with
  | lst l =>
    have e1 : inD x l = some b := by cases x <;> simpa only [cmpD] using e1
    obtain ⟨s1, s2, rfl⟩ := inD_some e1
    refine .inl (.inl ⟨x.py, D.pys l, Rep.dp _ _ _ s1 (t1.rep R0.gh), ?_, shp_shaped (by decide) s1, (shps_shaped s2).1, k_sc R0 k (.bl _)⟩)
    exact Rep.dp 60 (.lst l) _ (by simpa [D.shp] using s2) (t2.rep R0.gh)
  | tup l =>
    have e1 : inD x l = some b := by cases x <;> simpa only [cmpD] using e1
    obtain ⟨s1, s2, rfl⟩ := inD_some e1
    refine .inl (.inr ⟨x.py, D.pys l, Rep.dp _ _ _ s1 (t1.rep R0.gh), ?_, shp_shaped (by decide) s1, (shps_shaped s2).2, k_sc R0 k (.bl _)⟩)
    exact Rep.dp 60 (.tup l) _ (by simpa [D.shp] using s2) (t2.rep R0.gh)
  | str l =>
    cases x <;> simp only [cmpD, reduceCtorEq, Option.some.injEq] at e1
    subst e1
    cases top_str t1; cases top_str t2
    exact .inr ⟨_, _, rfl, rfl, k_sc R0 k (.bl _)⟩
  | _ => cases x <;> simp only [cmpD, reduceCtorEq] at e1
theorem o_nin (hu : X.A.units + 65 < cLine) : OpD X cl (compareOp .NotIn) (cR .nin) := by
  refine ⟨_, OpR.or (OpR.or (op_notInD hu) (op_notInT hu)) L2.op_notIn_str, fun σ env G H v1 v2 x y res Q R0 z t1 t2 e k => ?_⟩
  obtain ⟨b, e1, rfl⟩ := cR_eq e
  cases y with
  | lst l =>
    have e1 : (inD x l).map (!·) = some b := by cases x <;> simpa only [cmpD] using e1
    obtain ⟨b', e2, rfl⟩ := Option.map_eq_some_iff.mp e1
    obtain ⟨s1, s2, rfl⟩ := inD_some e2
    refine .inl (.inl ⟨x.py, D.pys l, Rep.dp _ _ _ s1 (t1.rep R0.gh), ?_, shp_shaped (by decide) s1, (shps_shaped s2).1, k_sc R0 k (.bl _)⟩)
    exact Rep.dp 60 (.lst l) _ (by simpa [D.shp] using s2) (t2.rep R0.gh)
  | tup l =>
    have e1 : (inD x l).map (!·) = some b := by cases x <;> simpa only [cmpD] using e1
    obtain ⟨b', e2, rfl⟩ := Option.map_eq_some_iff.mp e1
    obtain ⟨s1, s2, rfl⟩ := inD_some e2
    refine .inl (.inr ⟨x.py, D.pys l, Rep.dp _ _ _ s1 (t1.rep R0.gh), ?_, shp_shaped (by decide) s1, (shps_shaped s2).2, k_sc R0 k (.bl _)⟩)
    exact Rep.dp 60 (.tup l) _ (by simpa [D.shp] using s2) (t2.rep R0.gh)
  | str l =>
    cases x <;> simp only [cmpD, reduceCtorEq, Option.some.injEq] at e1
    subst e1
    cases top_str t1; cases top_str t2
    exact .inr ⟨_, _, rfl, rfl, k_sc R0 k (.bl _)⟩
  | _ => cases x <;> simp only [cmpD, reduceCtorEq] at e1
end
end Tk

set_option Elab.async false
set_option linter.all false
set_option maxRecDepth 100000
set_option maxHeartbeats 2000000
/-! Ir4: names, constants, comparisons, tests, displays, subscripts. -/
namespace Tk
open PySem PySem.Spec L2
section
variable {X : Cx} {cl : Nat → Addr} {e : Expr} {pos : Pos}

/-! ### names, constants -/
theorem s_var {i : Nat} {x : Str} (hN : X.N[i]? = some x) (hv : Vis X.env.scope x) (hd : (x == ("__debug__" : Str)) = false) (hcd : (x == ("__classdict__" : Str)) = false) :
    PE X (.Name x pos) (tX (gm X cl) fun env => match env[i]? with
    | some (some (.d x)) => .ok (.d x) env
    | some (some _) => .ok (.bor i) env
    | _ => .stuck) := by
  refine pe_imp (pe_sz (pe_var hN hv hd hcd)) fun σ H Q ⟨G, env, R0, m⟩ => ?_
  dsimp only at m
  cases q : env[i]? with
  | none => rw [q] at m; exact m.elim
  | some o =>
    cases o with
    | none => rw [q] at m; exact m.elim
    | some s =>
      rw [q] at m
      obtain ⟨v, e1, r⟩ := R0.slot i s q
      refine ⟨v, e1, fun z => ?_⟩
      cases s with
      | d x => exact m v G H (.refl R0) r z
      | own c => exact m v G H (.refl R0) e1 z
      | io c => exact m v G H (.refl R0) e1 z
theorem s_con {x : D} {v : V} (h : PE X e (tC v)) (r : ∀ G, Rep (gm X cl) G v x) : PE X e (tX (gm X cl) fun env => .ok (.d x) env) :=
  pe_imp (pe_sz h) fun σ H Q ⟨G, env, R0, m⟩ z => m v G H (.refl R0) (r G) z
/-- the same value, an owned thing of slot i frozen first -/
theorem s_frz {i : Nat} {x : Str} (hN : X.N[i]? = some x) (hv : Vis X.env.scope x) (hd : (x == ("__debug__" : Str)) = false) (hcd : (x == ("__classdict__" : Str)) = false) :
    PE X (.Name x pos) (tX (gm X cl) fun env => match env[i]? with
    | some (some (.d x)) => .ok (.d x) env
    | some (some (.own c)) => .ok (.d c.toD) (env.set i (some (.d c.toD)))
    | _ => .stuck) := by
  refine pe_imp (pe_sz (pe_var hN hv hd hcd)) fun σ H Q ⟨G, env, R0, m⟩ => ?_
  dsimp only at m
  cases q : env[i]? with
  | none => rw [q] at m; exact m.elim
  | some o =>
    cases o with
    | none => rw [q] at m; exact m.elim
    | some s =>
      rw [q] at m
      obtain ⟨v, e1, r⟩ := R0.slot i s q
      refine ⟨v, e1, fun z => ?_⟩
      cases s with
      | d x => exact m v G H (.refl R0) r z
      | io c => exact m.elim
      | own c =>
        obtain ⟨a, o, rfl, g, ha, rp⟩ := (show Cel (gm X cl) G H v c from r).obj
        have hi : i < env.length := (List.getElem?_eq_some_iff.mp q).1
        have fa : Fp σ env a := ⟨i, .own c, c, q, rfl, e1⟩
        have nf : ∀ b, Fp σ (env.set i (some (.d c.toD))) b → b ≠ a ∧ Fp σ env b := fun b ⟨j, s, k, h1, h2, h3⟩ => by
          by_cases hj : j = i
          · subst hj
            rw [List.getElem?_set_self hi] at h1
            cases h1
            cases h2
          · rw [List.getElem?_set_ne (Ne.symm hj)] at h1
            refine ⟨fun z => hj ?_, j, s, k, h1, h2, h3⟩
            subst z
            exact R0.sep j i s _ k c h1 h2 q rfl (h3.trans e1.symm)
        have ss : Same G (upd G a o) := same_upd g
        refine m _ (upd G a o) H ⟨⟨by rw [List.length_set]; exact R0.len, fun b q z => ?_, fun j s h1 => ?_, fun j k s s' c1 c2 h1 h2 h3 h4 h5 => ?_⟩, ⟨ss, fun _ _ z _ => z, fun b z => ?_, fun _ z => z⟩, ⟨by simp, fun j s k h1 h2 => ?_, fun j k h1 => ?_, fun j k h1 => ?_⟩⟩ rp z
        · by_cases hb : b = a
          · subst hb; rw [upd_same] at z; cases z; exact ha
          · rw [upd_ne hb] at z; exact R0.gh _ _ z
        · by_cases hj : j = i
          · subst hj
            rw [List.getElem?_set_self hi] at h1
            cases h1
            exact ⟨_, e1, rp⟩
          · rw [List.getElem?_set_ne (Ne.symm hj)] at h1
            obtain ⟨v', e2, r2⟩ := R0.slot j s h1
            refine ⟨v', e2, r2.keep ss (fun b k hk hv => ?_) fun _ _ _ _ _ z => z⟩
            subst hv
            have hb : b ≠ a := fun z => by subst z; exact hj (R0.sep j i s _ k c h1 hk q rfl (e2.trans e1.symm))
            rw [upd_ne hb]
            exact (R0.fp_g ⟨j, s, k, h1, hk, e2⟩).1
        · have a1 : j ≠ i := fun z => by subst z; rw [List.getElem?_set_self hi] at h1; cases h1; cases h2
          have a2 : k ≠ i := fun z => by subst z; rw [List.getElem?_set_self hi] at h3; cases h3; cases h4
          rw [List.getElem?_set_ne (Ne.symm a1)] at h1
          rw [List.getElem?_set_ne (Ne.symm a2)] at h3
          exact R0.sep j k s s' c1 c2 h1 h2 h3 h4 h5
        · by_cases hb : b = a
          · subst hb; exact .inr (.inr fa)
          · rw [upd_ne hb] at z; exact .inl z
        · by_cases hj : j = i
          · subst hj; rw [List.getElem?_set_self hi] at h1; cases h1; cases h2
          · rw [List.getElem?_set_ne (Ne.symm hj)] at h1; exact ⟨s, k, h1, h2⟩
        · have hj : j ≠ i := fun z => by subst z; rw [q] at h1; cases h1
          exact ⟨k, by rw [List.getElem?_set_ne (Ne.symm hj)]; exact h1⟩
        · by_cases hj : j = i
          · subst hj; rw [List.getElem?_set_self hi] at h1; cases h1
          · rw [List.getElem?_set_ne (Ne.symm hj)] at h1; exact ⟨k, h1⟩

/-! ### comparisons -/
theorem s_cmp {op : CmpOp} {o : COp} {a b : Expr} {ea eb : En → Res En W} (od : OpD X cl (compareOp op) (cR o)) (hm : behindInMarks op b = false) (ha : PE X a (tW (gm X cl) ea)) (hb : PE X b (tW (gm X cl) eb)) :
    PE X (.Compare a [op] [b] pos) (tX (gm X cl) fun env => (ea env).bind fun x env1 => (eb env1).bind fun y env2 => lift ((val env2 x).bind fun u => (val env2 y).bind fun w => cR o u w) env2) :=
  let ⟨r, h1, h2⟩ := od
  pe_imp (pe_sz (pe_cmpR h1 ha hb hm)) (two_ev h2)

/-! ### truth -/
theorem top_tru {Γ : Gm} {G H : Hp} {v : V} {x : D} {k : Bool} (gh : Same G H) (h : TopR Γ G H v x) (e : truthD x = some k) : TruV Γ.K v H k := by
  cases x with
  | non => cases top_non h; cases e; rfl
  | bl b => cases top_bl h; cases e; rfl
  | int i => cases top_int h; cases e; rfl
  | str s =>
    cases top_str h
    simp only [truthD, Option.ite_none_right_eq_some, Option.some.injEq] at e
    exact ⟨e.1, e.2.symm⟩
  | tup l =>
    obtain ⟨a, xs, rfl, h1, r⟩ := top_tup h
    cases e
    exact .inr (.inl ⟨xs, same_sqT gh h1, by rw [r.isEmpty]⟩)
  | lst l =>
    obtain ⟨a, xs, rfl, h1, r⟩ := h
    cases e
    exact .inl ⟨xs, .inl (.inl h1), by rw [r.isEmpty]⟩
  | dct l => cases e
  | ins c l => cases e
  | scr l => cases e
theorem tru_eq (ev : En → Res En R) (env : En) : (ev env).tru = ((ev env).frz).bind fun x env1 => lift ((val env1 x).bind truthD) env1 := by
  cases q : ev env <;> simp [Res.tru, Res.frz]
/-- the value is evaluated, its truth is known -/
theorem tru_ev {ev : En → Res En W} {σ : L2.St} {H : Hp} {Q : Bool → Hp → Prop}
    (z : tT (gm X cl) (fun env => (ev env).bind fun x env1 => lift ((val env1 x).bind truthD) env1) σ H Q) :
    tW (gm X cl) ev σ H fun v H' => ∃ k, TruV X.K v H' k ∧ (Sz X.K H' → Q k H') := by
  obtain ⟨G, env, R0, m⟩ := z
  refine ⟨G, env, R0, ?_⟩
  dsimp only at m
  cases qa : ev env with
  | ok x env1 =>
    rw [qa] at m
    rw [Res.bind_ok] at m
    intro v G1 H1 s1 w1 z1
    cases q1 : val env1 x with
    | none => rw [q1] at m; exact m.elim
    | some u =>
      cases q2 : truthD u with
      | none => rw [q1] at m; dsimp only [Option.bind] at m; rw [q2] at m; exact m.elim
      | some k =>
        rw [q1] at m; dsimp only [Option.bind] at m; rw [q2] at m
        exact ⟨k, top_tru s1.rel.gh (val_top s1.rel w1 q1) q2, fun z => m G1 H1 s1 z⟩
  | exc x s => rw [qa] at m; exact m.elim
  | stuck => rw [qa] at m; exact m.elim
theorem s_tru {ev : En → Res En R} (h : PE X e (tX (gm X cl) ev)) (he : ∀ whole, isTrue e X.env whole = (do let v ← whole; standAt e.pos; holding [v] (truthy v))) : PT X e (tT (gm X cl) fun env => (ev env).tru) := by
  have q : (fun env => (ev env).tru) = fun env => ((ev env).frz).bind fun x env1 => lift ((val env1 x).bind truthD) env1 := funext fun env => tru_eq ev env
  rw [q]
  refine pt_imp (pt_sz (pt_truth (pe_tW h) he)) fun σ H Q z => tru_ev z
/-- a comparison as a test -/
theorem s_cmpT {op : CmpOp} {o : COp} {a b : Expr} {ea eb : En → Res En W} (od : OpD X cl (compareOp op) (cR o)) (hm : behindInMarks op b = false) (ha : PE X a (tW (gm X cl) ea)) (hb : PE X b (tW (gm X cl) eb)) :
    PT X (.Compare a [op] [b] pos) (tT (gm X cl) fun env => ((ea env).bind fun x env1 => (eb env1).bind fun y env2 => lift ((val env2 x).bind fun u => (val env2 y).bind fun w => cR o u w) env2).tru) := by
  obtain ⟨r, h1, h2⟩ := od
  refine pt_imp (pt_sz (pt_cmpR h1 ha hb hm)) fun σ H Q ⟨G, env, R0, m⟩ => ?_
  show tOp r (tW (gm X cl) ea) (tW (gm X cl) eb) σ H fun v H' => ∃ k, v = .bl k ∧ (Sz X.K H' → Q k H')
  refine ⟨G, env, R0, ?_⟩
  dsimp only at m
  cases qa : ea env with
  | ok x env1 =>
    rw [qa] at m
    intro v1 G1 H1 s1 w1 z1
    refine ⟨G1, env1, s1.rel, ?_⟩
    rw [Res.bind_ok] at m
    cases qb : eb env1 with
    | ok y env2 =>
      rw [qb] at m
      intro v2 G2 H2 s2 w2 z2
      rw [Res.bind_ok] at m
      cases q1 : val env2 x with
      | none => rw [q1] at m; exact m.elim
      | some u =>
        cases q2 : val env2 y with
        | none => rw [q1, q2] at m; exact m.elim
        | some w =>
          cases q3 : cR o u w with
          | none => rw [q1, q2] at m; dsimp only [Option.bind] at m; rw [q3] at m; exact m.elim
          | some res =>
            obtain ⟨k, _, rfl⟩ := cR_eq q3
            rw [q1, q2] at m; dsimp only [Option.bind] at m; rw [q3] at m
            refine h2 σ env2 G2 H2 v1 v2 u w _ _ s2.rel z2 (val_top s2.rel (w1.mono s2.keep.ss) q1) (val_top s2.rel w2 q2) q3 fun v G' H' s3 rr => ?_
            have rr : Rep (gm X cl) G' v (.bl k) := rr
            cases rr
            exact ⟨k, rfl, fun z => m G' H' ((s1.trans s2).trans s3) z⟩
    | exc x s => rw [qb] at m; exact m.elim
    | stuck => rw [qb] at m; exact m.elim
  | exc x s => rw [qa] at m; exact m.elim
  | stuck => rw [qa] at m; exact m.elim
/-! ### not, and, or, if else -/
theorem s_not {a : Expr} {ev : En → Res En R} (h : PE X a (tX (gm X cl) ev)) :
    PE X (.UnaryOp .Not a pos) (tX (gm X cl) fun env => ((ev env).tru).bind fun k env1 => .ok (.d (.bl (!k))) env1) := by
  refine pe_imp (pe_sz (pe_notT (pe_tW h))) fun σ H Q ⟨G, env, R0, m⟩ => ?_
  dsimp only at m
  rw [tru_eq] at m
  refine tru_ev (ev := fun env => (ev env).frz) (Q := fun k H' => Q (.bl (!k)) H') ⟨G, env, R0, ?_⟩
  dsimp only at m ⊢
  cases q : ((ev env).frz).bind fun x env1 => lift ((val env1 x).bind truthD) env1 with
  | ok k env1 => rw [q] at m; exact fun G' H' s1 z => m _ G' H' s1 (Rep.bl _) z
  | exc x s => rw [q] at m; exact m.elim
  | stuck => rw [q] at m; exact m.elim
theorem tT_mono {ev : En → Res En Bool} {σ : L2.St} {H : Hp} {Q Q' : Bool → Hp → Prop} (h : tT (gm X cl) ev σ H Q) (i : ∀ b H', Q b H' → Q' b H') : tT (gm X cl) ev σ H Q' := by
  obtain ⟨G, env, R0, m⟩ := h
  refine ⟨G, env, R0, ?_⟩
  cases q : ev env with
  | ok k env1 => rw [q] at m; exact fun G' H' s1 z => i _ _ (m G' H' s1 z)
  | exc x s => rw [q] at m; exact m.elim
  | stuck => rw [q] at m; exact m.elim
/-- from a step's end the rest is evaluated -/
theorem tX_from {ev : En → Res En R} {σ : L2.St} {G H G1 H1 : Hp} {env env1 : En} {Q : VK} (R0 : Rel (gm X cl) G H σ env) (s1 : Stp (gm X cl) σ G H env G1 H1 env1)
    (m : match ev env1 with
      | .ok r env' => ∀ v G' H', Stp (gm X cl) σ G H env G' H' env' → RR (gm X cl) H G' H' σ v r → Sz X.K H' → Q v H'
      | _ => False) : tX (gm X cl) ev σ H1 Q := by
  refine ⟨G1, env1, s1.rel, ?_⟩
  cases q : ev env1 with
  | ok r env2 => rw [q] at m; exact fun v G' H' s2 rr z => m v G' H' (s1.trans s2) (rr.back s1.keep.up) z
  | exc x s => rw [q] at m; exact m.elim
  | stuck => rw [q] at m; exact m.elim
theorem tT_from {ev : En → Res En Bool} {σ : L2.St} {G H G1 H1 : Hp} {env env1 : En} {Q : Bool → Hp → Prop} (s1 : Stp (gm X cl) σ G H env G1 H1 env1)
    (m : match ev env1 with
      | .ok b env' => ∀ G' H', Stp (gm X cl) σ G H env G' H' env' → Sz X.K H' → Q b H'
      | _ => False) : tT (gm X cl) ev σ H1 Q := by
  refine ⟨G1, env1, s1.rel, ?_⟩
  cases q : ev env1 with
  | ok r env2 => rw [q] at m; exact fun G' H' s2 z => m G' H' (s1.trans s2) z
  | exc x s => rw [q] at m; exact m.elim
  | stuck => rw [q] at m; exact m.elim
theorem s_and {a b : Expr} {rest : List Expr} {ea eb : En → Res En R} (ha : PE X a (tX (gm X cl) ea)) (hb : PE X (.BoolOp .And (b :: rest) pos) (tX (gm X cl) eb)) :
    PE X (.BoolOp .And (a :: b :: rest) pos) (tX (gm X cl) fun env => ((ea env).frz).bind fun x env1 => (lift ((val env1 x).bind truthD) env1).bind fun k env1 => if k = true then eb env1 else .ok x.r env1) := by
  refine pe_imp (pe_sz (pe_andT (pe_tW ha) hb)) fun σ H Q ⟨G, env, R0, m⟩ => ⟨G, env, R0, ?_⟩
  dsimp only at m ⊢
  cases qa : (ea env).frz with
  | ok x env1 =>
    rw [qa] at m
    rw [Res.bind_ok] at m
    intro v G1 H1 s1 w1 z1
    cases q1 : val env1 x with
    | none => rw [q1] at m; exact m.elim
    | some u =>
      cases q2 : truthD u with
      | none => rw [q1] at m; dsimp only [Option.bind] at m; rw [q2] at m; exact m.elim
      | some k =>
        rw [q1] at m; dsimp only [Option.bind] at m; rw [q2] at m
        refine ⟨k, top_tru s1.rel.gh (val_top s1.rel w1 q1) q2, ?_⟩
        have m : (match (if k = true then eb env1 else .ok x.r env1) with
          | .ok r env' => ∀ v G' H', Stp (gm X cl) σ G H env G' H' env' → RR (gm X cl) H G' H' σ v r → Sz X.K H' → Q v H'
          | _ => False) := m
        cases k with
        | true =>
          rw [if_pos rfl] at m ⊢
          refine tX_from R0 s1 ?_
          cases q : eb env1 with
          | ok r env2 => rw [q] at m; exact fun v G' H' s2 rr z _ => m v G' H' s2 rr z
          | exc x s => rw [q] at m; exact m.elim
          | stuck => rw [q] at m; exact m.elim
        | false =>
          rw [if_neg Bool.false_ne_true] at m ⊢
          exact fun z => m v G1 H1 s1 w1.rr z
  | exc x s => rw [qa] at m; exact m.elim
  | stuck => rw [qa] at m; exact m.elim
theorem s_or {a b : Expr} {rest : List Expr} {ea eb : En → Res En R} (ha : PE X a (tX (gm X cl) ea)) (hb : PE X (.BoolOp .Or (b :: rest) pos) (tX (gm X cl) eb)) :
    PE X (.BoolOp .Or (a :: b :: rest) pos) (tX (gm X cl) fun env => ((ea env).frz).bind fun x env1 => (lift ((val env1 x).bind truthD) env1).bind fun k env1 => if k = true then .ok x.r env1 else eb env1) := by
  refine pe_imp (pe_sz (pe_orT (pe_tW ha) hb)) fun σ H Q ⟨G, env, R0, m⟩ => ⟨G, env, R0, ?_⟩
  dsimp only at m ⊢
  cases qa : (ea env).frz with
  | ok x env1 =>
    rw [qa] at m
    rw [Res.bind_ok] at m
    intro v G1 H1 s1 w1 z1
    cases q1 : val env1 x with
    | none => rw [q1] at m; exact m.elim
    | some u =>
      cases q2 : truthD u with
      | none => rw [q1] at m; dsimp only [Option.bind] at m; rw [q2] at m; exact m.elim
      | some k =>
        rw [q1] at m; dsimp only [Option.bind] at m; rw [q2] at m
        refine ⟨k, top_tru s1.rel.gh (val_top s1.rel w1 q1) q2, ?_⟩
        have m : (match (if k = true then .ok x.r env1 else eb env1) with
          | .ok r env' => ∀ v G' H', Stp (gm X cl) σ G H env G' H' env' → RR (gm X cl) H G' H' σ v r → Sz X.K H' → Q v H'
          | _ => False) := m
        cases k with
        | false =>
          rw [if_neg Bool.false_ne_true] at m ⊢
          refine tX_from R0 s1 ?_
          cases q : eb env1 with
          | ok r env2 => rw [q] at m; exact fun v G' H' s2 rr z _ => m v G' H' s2 rr z
          | exc x s => rw [q] at m; exact m.elim
          | stuck => rw [q] at m; exact m.elim
        | true =>
          rw [if_pos rfl] at m ⊢
          exact fun z => m v G1 H1 s1 w1.rr z
  | exc x s => rw [qa] at m; exact m.elim
  | stuck => rw [qa] at m; exact m.elim
theorem s_one {op : BoolOp} {a : Expr} {t : TE} (h : PE X a t) : PE X (.BoolOp op [a] pos) t := pe_one h
/-! .. as tests: what is evaluated as a value has the same truth -/
theorem pw_imp {e : Expr} {t t0 : TT} (h : PW X e t0) (i : ∀ σ H Q, t σ H Q → t0 σ H Q) : PW X e t := ⟨fun whole pins s σ H Q I z => h.run whole pins s σ H Q I (i σ H Q z)⟩
theorem s_andT {a b : Expr} {rest : List Expr} {ea eb : En → Res En R} (ha : PT X a (tT (gm X cl) fun env => (ea env).tru)) (hb : PW X (.BoolOp .And (b :: rest) pos) (tT (gm X cl) fun env => (eb env).tru)) :
    PW X (.BoolOp .And (a :: b :: rest) pos) (tT (gm X cl) fun env => (((ea env).frz).bind fun x env1 => (lift ((val env1 x).bind truthD) env1).bind fun k env1 => if k = true then eb env1 else .ok x.r env1).tru) := by
  refine pw_imp (pw_and ha hb) fun σ H Q ⟨G, env, R0, m⟩ => ⟨G, env, R0, ?_⟩
  dsimp only at m ⊢
  rw [tru_eq]
  cases qa : (ea env).frz with
  | ok x env1 =>
    rw [qa] at m
    rw [Res.bind_ok] at m ⊢
    cases q1 : val env1 x with
    | none => rw [q1] at m; exact m.elim
    | some u =>
      cases q2 : truthD u with
      | none => rw [q1] at m; dsimp only [Option.bind] at m; rw [q2] at m; exact m.elim
      | some k =>
        rw [q1] at m; dsimp only [Option.bind] at m ⊢; rw [q2] at m ⊢
        intro G1 H1 s1 z1
        have m : (match Res.tru (if k = true then eb env1 else .ok x.r env1) with
          | .ok b env' => ∀ G' H', Stp (gm X cl) σ G H env G' H' env' → Sz X.K H' → Q b H'
          | _ => False) := m
        cases k with
        | true =>
          rw [if_pos rfl] at m ⊢
          exact tT_from s1 m
        | false =>
          rw [if_neg Bool.false_ne_true] at m ⊢
          rw [tru_eq] at m
          have e : (Res.frz (.ok x.r env1) : Res En W) = .ok x env1 := by cases x <;> rfl
          rw [e, Res.bind_ok, q1] at m
          dsimp only [Option.bind] at m
          rw [q2] at m
          exact m G1 H1 s1 z1
  | exc x s => rw [qa] at m; exact m.elim
  | stuck => rw [qa] at m; exact m.elim
theorem s_orT {a b : Expr} {rest : List Expr} {ea eb : En → Res En R} (ha : PT X a (tT (gm X cl) fun env => (ea env).tru)) (hb : PW X (.BoolOp .Or (b :: rest) pos) (tT (gm X cl) fun env => (eb env).tru)) :
    PW X (.BoolOp .Or (a :: b :: rest) pos) (tT (gm X cl) fun env => (((ea env).frz).bind fun x env1 => (lift ((val env1 x).bind truthD) env1).bind fun k env1 => if k = true then .ok x.r env1 else eb env1).tru) := by
  refine pw_imp (pw_or ha hb) fun σ H Q ⟨G, env, R0, m⟩ => ⟨G, env, R0, ?_⟩
  dsimp only at m ⊢
  rw [tru_eq]
  cases qa : (ea env).frz with
  | ok x env1 =>
    rw [qa] at m
    rw [Res.bind_ok] at m ⊢
    cases q1 : val env1 x with
    | none => rw [q1] at m; exact m.elim
    | some u =>
      cases q2 : truthD u with
      | none => rw [q1] at m; dsimp only [Option.bind] at m; rw [q2] at m; exact m.elim
      | some k =>
        rw [q1] at m; dsimp only [Option.bind] at m ⊢; rw [q2] at m ⊢
        intro G1 H1 s1 z1
        have m : (match Res.tru (if k = true then .ok x.r env1 else eb env1) with
          | .ok b env' => ∀ G' H', Stp (gm X cl) σ G H env G' H' env' → Sz X.K H' → Q b H'
          | _ => False) := m
        cases k with
        | false =>
          rw [if_neg Bool.false_ne_true] at m ⊢
          exact tT_from s1 m
        | true =>
          rw [if_pos rfl] at m ⊢
          rw [tru_eq] at m
          have e : (Res.frz (.ok x.r env1) : Res En W) = .ok x env1 := by cases x <;> rfl
          rw [e, Res.bind_ok, q1] at m
          dsimp only [Option.bind] at m
          rw [q2] at m
          exact m G1 H1 s1 z1
  | exc x s => rw [qa] at m; exact m.elim
  | stuck => rw [qa] at m; exact m.elim
theorem s_notT {a : Expr} {ea : En → Res En R} (ha : PT X a (tT (gm X cl) fun env => (ea env).tru)) :
    PT X (.UnaryOp .Not a pos) (tT (gm X cl) fun env => (((ea env).tru).bind fun k env1 => .ok (.d (.bl (!k))) env1).tru) := by
  refine pt_imp (pt_not ha) fun σ H Q ⟨G, env, R0, m⟩ => ⟨G, env, R0, ?_⟩
  dsimp only at m ⊢
  cases qa : (ea env).tru with
  | ok k env1 => rw [qa] at m; exact m
  | exc x s => rw [qa] at m; exact m.elim
  | stuck => rw [qa] at m; exact m.elim
theorem s_ife {c a b : Expr} {ec ea eb : En → Res En R} (hc : PT X c (tT (gm X cl) fun env => (ec env).tru)) (ha : PE X a (tX (gm X cl) ea)) (hb : PE X b (tX (gm X cl) eb)) :
    PE X (.IfExp c a b pos) (tX (gm X cl) fun env => ((ec env).tru).bind fun k env1 => if k = true then ea env1 else eb env1) := by
  refine pe_imp (pe_ifExp hc ha hb) fun σ H Q ⟨G, env, R0, m⟩ => ⟨G, env, R0, ?_⟩
  dsimp only at m ⊢
  cases qa : (ec env).tru with
  | ok k env1 =>
    rw [qa] at m
    intro G1 H1 s1 z1
    have m : (match (if k = true then ea env1 else eb env1) with
          | .ok r env' => ∀ v G' H', Stp (gm X cl) σ G H env G' H' env' → RR (gm X cl) H G' H' σ v r → Sz X.K H' → Q v H'
          | _ => False) := m
    cases k with
    | true => rw [if_pos rfl] at m ⊢; exact tX_from R0 s1 m
    | false => rw [if_neg Bool.false_ne_true] at m ⊢; exact tX_from R0 s1 m
  | exc x s => rw [qa] at m; exact m.elim
  | stuck => rw [qa] at m; exact m.elim
end
end Tk

set_option Elab.async false
set_option linter.all false
set_option maxRecDepth 100000
set_option maxHeartbeats 2000000
/-! Ir5: subscripts, displays, built-ins. -/
namespace Tk
open PySem PySem.Spec L2
section
variable {X : Cx} {cl : Nat → Addr} {e : Expr} {pos : Pos}

/-! ### subscripts -/
theorem atI_rep {Γ : Gm} {G : Hp} {xs : List V} {ds : List D} {i : Int} {d : D} (r : RepAll Γ G xs ds) (h : atI ds i = some d) : ∃ v, atI xs i = some v ∧ Rep Γ G v d := by
  unfold atI at h ⊢
  rw [r.length]
  cases q : ixN ds.length i with
  | none => rw [q] at h; cases h
  | some j =>
    rw [q] at h
    exact r.getD (i := j) h
theorem s_idx {a b : Expr} {ea eb : En → Res En W} (ha : PE X a (tW (gm X cl) ea)) (hb : PE X b (tW (gm X cl) eb)) (hs : PlainIx b) :
    PE X (.Subscript a b pos) (tX (gm X cl) fun env => (ea env).bind fun x env1 => (eb env1).bind fun y env2 => lift ((val env2 x).bind fun u => (val env2 y).bind fun w => (idxD u w).map .d) env2) := by
  refine pe_imp (pe_sz (pe_ix ix_seq ha hb hs)) (two_ev (g := fun u w => (idxD u w).map .d) fun σ env G H v1 v2 x y res Q R0 z t1 t2 e k => ?_)
  obtain ⟨d, e1, e2⟩ := Option.map_eq_some_iff.mp e
  subst e2
  cases x <;> cases y <;> simp only [idxD, reduceCtorEq, Option.ite_none_right_eq_some] at e1
  case str.int s i =>
    obtain ⟨hz, e1⟩ := e1
    obtain ⟨c, hc, e2⟩ := Option.map_eq_some_iff.mp e1
    subst e2
    cases top_str t1; cases top_int t2
    exact .inr (.inr ⟨s, i, c, rfl, rfl, hz, hc, k_sc R0 k (.str _)⟩)
  case tup.int l i =>
    obtain ⟨a, xs, rfl, h1, r⟩ := top_tup t1
    cases top_int t2
    obtain ⟨v, h2, h3⟩ := atI_rep r e1
    exact .inr (.inl ⟨a, xs, i, v, rfl, rfl, same_sqT R0.gh h1, h2, k_sc R0 k h3⟩)
  case lst.int l i =>
    obtain ⟨a, xs, rfl, h1, r⟩ := t1
    cases top_int t2
    obtain ⟨v, h2, h3⟩ := atI_rep r e1
    exact .inl ⟨a, xs, i, v, rfl, rfl, .inl (.inl h1), h2, k_sc R0 k h3⟩
/-- a slice's part -/
def tO (Γ : Gm) (ev : En → Res En (Option Int)) : TO := fun σ H Q => ∃ G env, Rel Γ G H σ env ∧ match ev env with
  | .ok o env' => ∀ G' H', Stp Γ σ G H env G' H' env' → Q o H'
  | _ => False
theorem po_imp {e : Option Expr} {t t0 : TO} (h : PO X e t0) (i : ∀ σ H Q, t σ H Q → t0 σ H Q) : PO X e t := ⟨fun pins s σ H Q I z => h.run pins s σ H Q I (i σ H Q z)⟩
theorem s_onone : PO X none (tO (gm X cl) fun env => .ok none env) := po_imp po_none fun σ H Q ⟨G, env, R0, m⟩ => m G H (.refl R0)
theorem s_osome {a : Expr} {ea : En → Res En R} (ha : PE X a (tX (gm X cl) ea)) : PO X (some a) (tO (gm X cl) fun env => ((ea env).val).bind fun x env1 => match x with
    | .int i => .ok (some i) env1
    | _ => .stuck) := by
  refine po_imp (po_some (pe_tX_V ha)) fun σ H Q ⟨G, env, R0, m⟩ => ⟨G, env, R0, ?_⟩
  dsimp only at m ⊢
  cases q : (ea env).val with
  | ok x env1 =>
    rw [q] at m
    rw [Res.bind_ok] at m
    cases x with
    | int i => exact fun v G' H' s1 t1 _ => ⟨i, top_int t1, m G' H' s1⟩
    | _ => exact m.elim
  | exc x s => rw [q] at m; exact m.elim
  | stuck => rw [q] at m; exact m.elim
theorem cut_rep {Γ : Gm} {G : Hp} {xs : List V} {ds : List D} {lo hi : Option Int} (r : RepAll Γ G xs ds) : RepAll Γ G (cutV xs lo hi) (cutD ds lo hi) := by
  unfold cutV cutD
  rw [r.length]
  exact (r.drop _).take _
theorem cutD_all {ds : List D} {lo hi : Option Int} (h : HT.sIx ds.length 0 lo = 0 ∧ HT.sIx ds.length ds.length hi = ds.length) : cutD ds lo hi = ds := by
  unfold cutD
  rw [h.1, h.2]
  simp
theorem s_slc {a : Expr} {lo hi : Option Expr} {p2 : Pos} {ea : En → Res En W} {el eh : En → Res En (Option Int)} (ha : PE X a (tW (gm X cl) ea)) (hl : PO X lo (tO (gm X cl) el)) (hh : PO X hi (tO (gm X cl) eh)) :
    PE X (.Subscript a (.Slice lo hi none p2) pos) (tX (gm X cl) fun env => (ea env).bind fun x env1 => (el env1).bind fun l env2 => (eh env2).bind fun h env3 => lift ((val env3 x).bind fun u => slcD u l h) env3) := by
  refine pe_imp (pe_sz (pe_slice (SlR.or (SlR.or sl_list sl_tupA) sl_str) ha hl hh)) fun σ H Q ⟨G, env, R0, m⟩ => ⟨G, env, R0, ?_⟩
  dsimp only at m ⊢
  cases qa : ea env with
  | ok x env1 =>
    rw [qa] at m
    rw [Res.bind_ok] at m
    intro v G1 H1 s1 w1 _
    refine ⟨G1, env1, s1.rel, ?_⟩
    cases ql : el env1 with
    | ok l env2 =>
      rw [ql] at m
      rw [Res.bind_ok] at m
      intro G2 H2 s2
      refine ⟨G2, env2, s2.rel, ?_⟩
      cases qh : eh env2 with
      | ok h env3 =>
        rw [qh] at m
        rw [Res.bind_ok] at m
        intro G3 H3 s3
        cases qv : val env3 x with
        | none => rw [qv] at m; exact m.elim
        | some u =>
          rw [qv] at m
          dsimp only [Option.bind] at m
          have t1 : TopR (gm X cl) G3 H3 v u := val_top s3.rel ((w1.mono s2.keep.ss).mono s3.keep.ss) qv
          have st := (s1.trans s2).trans s3
          have up := st.keep.up
          cases qs : slcD u l h with
          | none => rw [qs] at m; exact m.elim
          | some res =>
            rw [qs] at m
            have k : ∀ v G' H', Stp (gm X cl) σ G3 H3 env3 G' H' env3 → RR (gm X cl) H3 G' H' σ v res → Sz X.K H' → Q v H' := fun v G' H' s4 rr z => m v G' H' (st.trans s4) (rr.back up) z
            cases u <;> simp only [slcD, reduceCtorEq, Option.some.injEq, Option.ite_none_right_eq_some] at qs
            case lst d =>
              subst qs
              obtain ⟨a, xs, rfl, h1, r⟩ := t1
              exact .inl (.inl ⟨a, xs, rfl, .inl (.inl h1), k_lst s3.rel (Q := fun v H' => Sz X.K H' → Q v H') k (cut_rep r)⟩)
            case tup d =>
              subst qs
              obtain ⟨a, xs, rfl, h1, r⟩ := top_tup t1
              refine .inl (.inr ⟨a, xs, rfl, same_sqT s3.rel.gh h1, fun hw => ?_, fun _ => k_tup s3.rel (Q := fun v H' => Sz X.K H' → Q v H') k (cut_rep r)⟩)
              rw [r.length] at hw
              rw [cutD_all hw] at k
              exact k_sc s3.rel (Q := fun v H' => Sz X.K H' → Q v H') k (.tup h1 r)
            case str d =>
              obtain ⟨hz, rfl⟩ := qs
              cases top_str t1
              exact .inr ⟨d, rfl, hz, k_sc s3.rel (Q := fun v H' => Sz X.K H' → Q v H') k (.str _)⟩
      | exc x s => rw [qh] at m; exact m.elim
      | stuck => rw [qh] at m; exact m.elim
    | exc x s => rw [ql] at m; exact m.elim
    | stuck => rw [ql] at m; exact m.elim
  | exc x s => rw [qa] at m; exact m.elim
  | stuck => rw [qa] at m; exact m.elim

/-! ### lists of expressions -/
inductive WRs (Γ : Gm) (G : Hp) (σ : L2.St) : List V → List W → Prop
  | nil : WRs Γ G σ [] []
  | cons {v : V} {vs : List V} {w : W} {ws : List W} : WR Γ G σ v w → WRs Γ G σ vs ws → WRs Γ G σ (v :: vs) (w :: ws)
def tWs (Γ : Gm) (ev : En → Res En (List W)) : TA := fun σ H Q => ∃ G env, Rel Γ G H σ env ∧ match ev env with
  | .ok ws env' => ∀ vs G' H', Stp Γ σ G H env G' H' env' → WRs Γ G' σ vs ws → Q vs H'
  | _ => False
theorem s_nil : PA X [] (tWs (gm X cl) fun env => .ok [] env) := pa_imp pa_nil fun σ H Q ⟨G, env, R0, m⟩ => m [] G H (.refl R0) .nil
theorem s_cons {a : Expr} {es : List Expr} {ea : En → Res En W} {ees : En → Res En (List W)} (ha : PE X a (tW (gm X cl) ea)) (hs : PA X es (tWs (gm X cl) ees)) (hst : starEach (a :: es) X.env = (false, eval a X.env) :: starEach es X.env) :
    PA X (a :: es) (tWs (gm X cl) fun env => (ea env).bind fun x env1 => (ees env1).bind fun xs env2 => .ok (x :: xs) env2) := by
  refine pa_imp (pa_cons ha hs hst) fun σ H Q ⟨G, env, R0, m⟩ => ⟨G, env, R0, ?_⟩
  dsimp only at m ⊢
  cases qa : ea env with
  | ok x env1 =>
    rw [qa] at m
    rw [Res.bind_ok] at m
    intro v G1 H1 s1 w1 _
    refine ⟨G1, env1, s1.rel, ?_⟩
    cases ql : ees env1 with
    | ok l env2 =>
      rw [ql] at m
      rw [Res.bind_ok] at m
      exact fun vs G2 H2 s2 w2 => m (v :: vs) G2 H2 (s1.trans s2) (.cons (w1.mono s2.keep.ss) w2)
    | exc x s => rw [ql] at m; exact m.elim
    | stuck => rw [ql] at m; exact m.elim
  | exc x s => rw [qa] at m; exact m.elim
  | stuck => rw [qa] at m; exact m.elim
theorem allD_rep {Γ : Gm} {G : Hp} {σ : L2.St} : ∀ {vs : List V} {ws : List W} {ds : List D}, WRs Γ G σ vs ws → allD ws = some ds → RepAll Γ G vs ds
  | _, _, _, .nil, e => by cases e; exact .nil
  | _, _, _, .cons (w := .d x) (ws := ws) h t, e => by
    have e : (allD ws).map (x :: ·) = some _ := e
    obtain ⟨ds, e1, e2⟩ := Option.map_eq_some_iff.mp e
    subst e2
    exact .cons h (allD_rep t e1)
  | _, _, _, .cons (w := .bor i) h t, e => by cases e
theorem s_tup {es : List Expr} {k : Nat} {ees : En → Res En (List W)} (h : PA X es (tWs (gm X cl) ees)) :
    PE X (.Tuple es k pos) (tX (gm X cl) fun env => (ees env).bind fun ws env1 => lift ((allD ws).bind fun ds => if ds.length ≤ sizeLine then some (.d (.tup ds)) else none) env1) := by
  refine pe_imp (pe_sz (pe_tup h)) fun σ H Q ⟨G, env, R0, m⟩ => ⟨G, env, R0, ?_⟩
  dsimp only at m ⊢
  cases qa : ees env with
  | ok ws env1 =>
    rw [qa] at m
    rw [Res.bind_ok] at m
    intro vs G1 H1 s1 w1
    cases q1 : allD ws with
    | none => rw [q1] at m; exact m.elim
    | some ds =>
      rw [q1] at m
      dsimp only [Option.bind] at m
      have r := allD_rep w1 q1
      by_cases hz : ds.length ≤ sizeLine
      · rw [if_pos hz] at m
        exact ⟨by rw [r.length]; exact hz, k_tup s1.rel (Q := fun v H' => Sz X.K H' → Q v H') (fun v G' H' s2 rr z => m v G' H' (s1.trans s2) rr z) r⟩
      · rw [if_neg hz] at m
        exact m.elim
  | exc x s => rw [qa] at m; exact m.elim
  | stuck => rw [qa] at m; exact m.elim
theorem s_lst {es : List Expr} {ees : En → Res En (List W)} (h : PA X es (tWs (gm X cl) ees)) :
    PE X (.List es pos) (tX (gm X cl) fun env => (ees env).bind fun ws env1 => lift ((allD ws).bind fun ds => if ds.length ≤ sizeLine then some (.own (.lst ds)) else none) env1) := by
  refine pe_imp (pe_sz (pe_lst h)) fun σ H Q ⟨G, env, R0, m⟩ => ⟨G, env, R0, ?_⟩
  dsimp only at m ⊢
  cases qa : ees env with
  | ok ws env1 =>
    rw [qa] at m
    rw [Res.bind_ok] at m
    intro vs G1 H1 s1 w1
    cases q1 : allD ws with
    | none => rw [q1] at m; exact m.elim
    | some ds =>
      rw [q1] at m
      dsimp only [Option.bind] at m
      have r := allD_rep w1 q1
      by_cases hz : ds.length ≤ sizeLine
      · rw [if_pos hz] at m
        exact ⟨by rw [r.length]; exact hz, k_lst s1.rel (Q := fun v H' => Sz X.K H' → Q v H') (fun v G' H' s2 rr z => m v G' H' (s1.trans s2) (rr.back s1.keep.up) z) r⟩
      · rw [if_neg hz] at m
        exact m.elim
  | exc x s => rw [qa] at m; exact m.elim
  | stuck => rw [qa] at m; exact m.elim
end
end Tk

set_option Elab.async false
set_option linter.all false
set_option maxRecDepth 100000
set_option maxHeartbeats 2000000
/-! Ir6: built-ins of one argument. -/
namespace Tk
open PySem PySem.Spec L2
section
variable {X : Cx} {cl : Nat → Addr} {e : Expr} {pos : Pos}
def CallD (X : Cx) (cl : Nat → Addr) (f : Value) (g : D → Option R) : Prop :=
  ∃ r : List V → Hp → VK → Prop, CallR X f r ∧ ∀ (σ : L2.St) (env : En) (G H : Hp) (v1 : V) (x : D) (res : R) (Q : VK), Rel (gm X cl) G H σ env → Sz X.K H → TopR (gm X cl) G H v1 x → g x = some res →
    (∀ v G' H', Stp (gm X cl) σ G H env G' H' env → RR (gm X cl) H G' H' σ v res → Q v H') → r [v1] H Q
theorem one_ev {r : List V → Hp → VK → Prop} {g : D → Option R} {ea : En → Res En W} {a : Expr}
    (h : ∀ (σ : L2.St) (env : En) (G H : Hp) (v1 : V) (x : D) (res : R) (Q : VK), Rel (gm X cl) G H σ env → Sz X.K H → TopR (gm X cl) G H v1 x → g x = some res →
      (∀ v G' H', Stp (gm X cl) σ G H env G' H' env → RR (gm X cl) H G' H' σ v res → Q v H') → r [v1] H Q) (σ : L2.St) (H : Hp) (Q : VK)
    (z : tX (gm X cl) (fun env => (ea env).bind fun x env1 => lift ((val env1 x).bind fun u => g u) env1) σ H Q) :
    tCB r (tCons (tW (gm X cl) ea) tNil) σ H (fun v H' => Sz X.K H' → Q v H') := by
  obtain ⟨G, env, R0, m⟩ := z
  refine ⟨G, env, R0, ?_⟩
  dsimp only at m ⊢
  cases qa : ea env with
  | ok x env1 =>
    rw [qa] at m
    rw [Res.bind_ok] at m
    intro v1 G1 H1 s1 w1 z1
    cases q1 : val env1 x with
    | none => rw [q1] at m; exact m.elim
    | some u =>
      rw [q1] at m
      dsimp only [Option.bind] at m
      cases q3 : g u with
      | none => rw [q3] at m; exact m.elim
      | some res =>
        rw [q3] at m
        exact h σ env1 G1 H1 v1 u res _ s1.rel z1 (val_top s1.rel w1 q1) q3 fun v G' H' s3 rr sz => m v G' H' (s1.trans s3) (rr.back s1.keep.up) sz
  | exc x s => rw [qa] at m; exact m.elim
  | stuck => rw [qa] at m; exact m.elim
theorem s_bi {id : String} {x : Str} {g : D → Option R} {a : Expr} {p : Pos} {ea : En → Res En W} (hc : CallD X cl (.builtin id) g) (hg : Gl X x) (hm : X.mg x = none) (hv : bootBuiltins x = some (.builtin id)) (hn : x ≠ "__name__") (hdb : (x == ("__debug__" : Str)) = false)
    (ha : PE X a (tW (gm X cl) ea)) (hst : starEach [a] X.env = [(false, eval a X.env)]) :
    PE X (.Call (.Name x p) [a] [] pos) (tX (gm X cl) fun env => (ea env).bind fun x env1 => lift ((val env1 x).bind fun u => g u) env1) := by
  obtain ⟨r, h1, h2⟩ := hc
  exact pe_imp (pe_sz (pe_callB h1 hg hm hv (pa_cons ha pa_nil hst) hn hdb hst rfl)) (one_ev (a := a) h2)
theorem s_ty {T : String} {x : Str} {g : D → Option R} {a : Expr} {p : Pos} {ea : En → Res En W} (hc : CallD X cl (.type T) g) (hg : Gl X x) (hm : X.mg x = none) (hv : bootBuiltins x = some (.type T)) (hn : x ≠ "__name__") (hdb : (x == ("__debug__" : Str)) = false)
    (ha : PE X a (tW (gm X cl) ea)) (hst : starEach [a] X.env = [(false, eval a X.env)]) :
    PE X (.Call (.Name x p) [a] [] pos) (tX (gm X cl) fun env => (ea env).bind fun x env1 => lift ((val env1 x).bind fun u => g u) env1) := by
  obtain ⟨r, h1, h2⟩ := hc
  exact pe_imp (pe_sz (pe_callTy h1 hg hm hv (pa_cons ha pa_nil hst) hn hdb hst rfl)) (one_ev (a := a) h2)

/-! ### len -/
theorem dO_ok {P : Program} {w : World} {H : Hp} {h : Heap} {a : Addr} {es : Array DictEntry} {ep : Nat} (ok : HOk P w H h) (e : H a = some (dO a es ep)) : h.DictRaw a es ep ∧ (a == sysModules) = false ∧ es.size ≤ sizeLine := (ok a _ e).1
theorem call_len_dct : CallR X (.builtin "len") (fun xs H Q => ∃ (a : Addr) (es : Array DictEntry) (ep : Nat), xs = [.ref a] ∧ H a = some (dO a es ep) ∧ Q (.int es.size) H) := by
  intro pins s σ H xs us Q I r h
  obtain ⟨a, es, ep, rfl, e, q⟩ := h
  obtain ⟨u, rfl, ru⟩ := vals1 r
  obtain rfl : u = Value.ref a := ru
  obtain ⟨hm, hs, hz⟩ := dO_ok I.hok e
  have sl : (sizeLine : Int) < 2 ^ 63 := by decide
  exact PyProof.Rows.call_len_slot (n := es.size) hm.typeIs PySem.F.slot_dict_len (fun Q' hq => call_len_raw hs hm hq) (by omega) (by omega) ⟨.int es.size, H, I.tok _, ⟨_, rfl⟩, q⟩
theorem c_len : CallD X cl (.builtin "len") (biD .len) := by
  refine ⟨_, L2.CallR.or call_len call_len_dct, fun σ env G H v1 x res Q R0 z t1 e k => ?_⟩
  have e : (lenD x).map (fun (n : Nat) => R.d (.int n)) = some res := by cases x <;> exact e
  obtain ⟨n, e1, e2⟩ := Option.map_eq_some_iff.mp e
  subst e2
  cases x with
  | str s =>
    cases top_str t1
    simp only [lenD, Option.ite_none_right_eq_some, Option.some.injEq] at e1
    exact .inl ⟨_, n, rfl, ⟨e1.1, e1.2.symm⟩, k_sc R0 k (.int _)⟩
  | tup l =>
    obtain ⟨a, xs, rfl, h1, r⟩ := top_tup t1
    cases e1
    exact .inl ⟨_, _, rfl, .inr ⟨xs, same_sqT R0.gh h1, r.length.symm⟩, k_sc R0 k (.int _)⟩
  | lst l =>
    obtain ⟨a, xs, rfl, h1, r⟩ := t1
    cases e1
    exact .inl ⟨_, _, rfl, .inl ⟨xs, .inl (.inl h1), r.length.symm⟩, k_sc R0 k (.int _)⟩
  | dct l =>
    obtain ⟨a, es, ep, ks, vs, rfl, h1, hs, k1, k2, r1, r2⟩ := t1
    cases e1
    refine .inr ⟨a, es, ep, rfl, h1, ?_⟩
    have e1 : es.size = l.length := by
      have h := congrArg List.length hs.hash
      simpa using h
    rw [e1]
    exact k_sc R0 k (.int _)
  | _ => cases e1
/-! ### int, bool -/
theorem c_int : CallD X cl (.type "int") (biD .int) := by
  refine ⟨_, call_int1, fun σ env G H v1 x res Q R0 z t1 e k => ?_⟩
  cases x <;> simp only [biD, reduceCtorEq, Option.some.injEq] at e <;> subst e
  · cases top_bl t1; exact .inr ⟨_, rfl, k_sc R0 k (.int _)⟩
  · cases top_int t1; exact .inl ⟨_, rfl, k_sc R0 k (.int _)⟩
theorem c_bool : CallD X cl (.type "bool") (biD .bool) := by
  refine ⟨_, call_bool1, fun σ env G H v1 x res Q R0 z t1 e k => ?_⟩
  cases x <;> simp only [biD, reduceCtorEq, Option.some.injEq] at e <;> subst e
  · cases top_bl t1; exact .inr ⟨_, rfl, k_sc R0 k (.bl _)⟩
  · cases top_int t1; exact .inl ⟨_, rfl, k_sc R0 k (.bl _)⟩
/-! ### list, tuple -/
theorem call_list_dct (hc : X.calm = true) : CallR X (.type "list") (fun xs H Q => ∃ (a : Addr) (es : Array DictEntry) (ep : Nat) (ks : List V), xs = [.ref a] ∧ H a = some (dO a es ep) ∧ Vals ks (es.toList.map (·.key)) ∧
    ∀ p, H p = none → Q (.ref p) (upd H p (.lst ks))) := by
  intro pins s σ H xs us Q I r h
  obtain ⟨a, es, ep, ks, rfl, e0, hk, q⟩ := h
  obtain ⟨u, rfl, ru⟩ := vals1 r
  obtain rfl : u = Value.ref a := ru
  obtain ⟨hm, hs, hz⟩ := dO_ok I.hok e0
  refine PySem.W.kdl_call (KdlSrc.rawDict hs) (I.ok.hd hc) hm hz fun h' tk acc' c' kp e it => ?_
  have ea : acc'.toList = es.toList.map (·.key) := by
    apply List.ext_getElem?
    intro j
    rw [List.getElem?_map]
    cases hj : acc'.toList[j]? with
    | none =>
      have h1 := List.getElem?_eq_none_iff.mp hj
      rw [Array.length_toList, it.1] at h1
      rw [List.getElem?_eq_none (by rw [Array.length_toList]; exact h1)]
      rfl
    | some v =>
      obtain ⟨hi, hv⟩ := it.2 j v (by rw [← Array.getElem?_toList]; exact hj)
      rw [List.getElem?_eq_getElem (by rw [Array.length_toList]; exact hi)]
      simp [hv]
  refine ⟨.ref s.heap.objs.size, _, I.laid (t' := tk) (o := .lst ks) kp (Nat.le_refl _) ?_, rfl, q _ (I.hok.fresh (Nat.le_refl _))⟩
  have hl : ks.length = es.size := by rw [hk.length]; simp
  exact ⟨by omega, acc'.toList, c', by rw [ea]; exact hk, by rw [Array.toArray_toList]; exact e⟩
theorem c_list (hc : X.calm = true) : CallD X cl (.type "list") (biD .list) := by
  refine ⟨_, L2.CallR.or call_list_of (call_list_dct hc), fun σ env G H v1 x res Q R0 z t1 e k => ?_⟩
  cases x <;> simp only [biD, reduceCtorEq, Option.some.injEq] at e <;> subst e
  case tup l =>
    obtain ⟨a, xs, rfl, h1, r⟩ := top_tup t1
    exact .inl ⟨a, xs, rfl, .inr (same_sqT R0.gh h1), k_lst R0 k r⟩
  case lst l =>
    obtain ⟨a, xs, rfl, h1, r⟩ := t1
    exact .inl ⟨a, xs, rfl, .inl (.inl (.inl h1)), k_lst R0 k r⟩
  case dct l =>
    obtain ⟨a, es, ep, ks, vs, rfl, h1, hs, k1, k2, r1, r2⟩ := t1
    exact .inr ⟨a, es, ep, ks, rfl, h1, k1, k_lst R0 k r1⟩
/-- what stands at a tracked address is seen -/
theorem ok_seen {P : Program} {w : World} {H : Hp} {h : Heap} {a : Addr} {o : HO} (x : ObjOk P w H h a o) : ∃ q, h.get? a = some q := by
  induction o with
  | lst xs => obtain ⟨_, _, _, _, e⟩ := x; exact ⟨_, e⟩
  | tup xs => obtain ⟨_, _, _, _, e, _⟩ := x; exact ⟨_, e⟩
  | dK kvs => obtain ⟨_, _, _, _, o, _, _, e, _⟩ := x; exact ⟨_, e⟩
  | dT kvs => obtain ⟨_, _, _, _, o, _, _, e, _⟩ := x; exact ⟨_, e⟩
  | set S n => obtain ⟨o, _, _, _, e, _⟩ := x; exact ⟨_, e⟩
  | ins C dx fs => obtain ⟨_, _, _, e, _⟩ := x; exact ⟨_, e⟩
  | own y => exact x
  | xd fs => obtain ⟨_, ⟨_, _, _, e, _⟩, _⟩ := x; exact ⟨_, e⟩
  | rng lo hi => obtain ⟨_, _, _, e⟩ := x; exact ⟨_, e⟩
  | frz ob u ih => exact ⟨_, x.1⟩
  | tbl ps => exact ⟨_, x⟩
  | met f y => exact ⟨_, x⟩
  | ext φ => exact x.2.1
theorem hok_none {P : Program} {w : World} {H : Hp} {h : Heap} {a : Addr} (ok : HOk P w H h) (e : h.get? a = none) : H a = none := by
  cases q : H a with
  | none => rfl
  | some o => obtain ⟨z, hz⟩ := ok_seen (ok a o q); rw [e] at hz; cases hz
/-- a new object where none was seen -/
theorem inv_laid {pins : List (Addr × Obj)} {σ : L2.St} {H : Hp} {s : Shared} {h' : Heap} {t' : Nat} {a : Addr} {o : HO} (I : Inv X pins σ H s) (k : ∀ b u, s.heap.get? b = some u → h'.get? b = some u) (e : s.heap.get? a = none)
    (new : ObjOk X.prog X.w (upd H a o) h' a o) : Inv X pins σ (upd H a o) { s with heap := h', toks := t' } := by
  have hn : H a = none := hok_none I.hok e
  have ne : ∀ b u, s.heap.get? b = some u → b ≠ a := fun b u q z => by subst z; rw [e] at q; cases q
  refine I.un ⟨fun b u q _ _ _ => k b u q, fun b u q _ _ _ => ⟨u.slots, k b u q⟩, fun b u q n _ => by rw [upd_ne (ne b u q)]; exact n, fun b u q _ => ⟨u, k b u q⟩, fun b xs q => same_upd hn _ _ q, fun b u xs q => same_upd hn _ _ q, fun b ps q => ⟨#[], by rw [same_upd hn _ _ q]; simp⟩⟩ fun b u q => ?_
  by_cases hb : b = a
  · subst hb; rw [upd_same] at q; cases q; exact new
  · rw [upd_ne hb] at q
    exact (I.hok b u q).stay (fun c v _ z => k c v z) (fun c z => same_upd hn _ _ z) fun c xs z => same_upd hn _ _ z
theorem call_tup_str (hc : X.calm = true) : CallR X (.type "tuple") (fun xs H Q => ∃ z : Str, xs = [.str z] ∧ z.length ≤ sizeLine ∧ ∀ p, H p = none → Q (.ref p) (upd H p (.tup (z.cps.toList.map fun c => V.str ⟨#[c]⟩)))) := by
  intro pins s σ H xs us Q I r h
  obtain ⟨z, rfl, hz, q⟩ := h
  obtain ⟨u, rfl, ru⟩ := vals1 r
  obtain ⟨t, rfl⟩ := ru
  refine call_tuple_str (I.ok.hd hc) z t (fun h' tk acc kp it => ?_) hz
  have hv : Vals (z.cps.toList.map fun c => V.str ⟨#[c]⟩) acc.toList := by
    refine vals_of_at (by rw [List.length_map, Array.length_toList, Array.length_toList, it.1]) fun j x u hx hu => ?_
    obtain ⟨c, t', h1, h2⟩ := it.2 j u (by rw [← Array.getElem?_toList]; exact hu)
    rw [List.getElem?_map, Array.getElem?_toList, h1] at hx
    cases hx
    exact ⟨t', h2⟩
  have no : s.heap.get? h'.objs.size = none := by
    cases q0 : s.heap.get? h'.objs.size with
    | none => rfl
    | some o => exact absurd (Heap.lt_size (kp _ _ q0)) (Nat.lt_irrefl _)
  refine ⟨.ref h'.objs.size, _, inv_laid (t' := tk) (o := .tup (z.cps.toList.map fun c => V.str ⟨#[c]⟩)) I (fun b o e => Heap.get?_push_of_some _ (kp b o e)) no ?_, rfl, q _ (hok_none I.hok no)⟩
  exact ⟨by rw [List.length_map, Array.length_toList]; exact hz, acc.toList, hv, PyProof.Rows.IsTup.new _ _⟩
theorem c_tuple (hc : X.calm = true) : CallD X cl (.type "tuple") (biD .tuple) := by
  refine ⟨_, L2.CallR.or call_tuple_of (call_tup_str hc), fun σ env G H v1 x res Q R0 z t1 e k => ?_⟩
  cases x <;> simp only [biD, reduceCtorEq, Option.some.injEq, Option.ite_none_right_eq_some] at e
  case str s =>
    obtain ⟨hz, rfl⟩ := e
    cases top_str t1
    refine .inr ⟨s, rfl, hz, k_tup R0 k ?_⟩
    induction s.cps.toList with
    | nil => exact .nil
    | cons c r ih => exact .cons (.str _) ih
  case tup l =>
    subst e
    obtain ⟨a, xs, rfl, h1, r⟩ := top_tup t1
    exact .inl ⟨a, xs, rfl, .inr ⟨same_sqT R0.gh h1, k_sc R0 k (.tup h1 r)⟩⟩
  case lst l =>
    subst e
    obtain ⟨a, xs, rfl, h1, r⟩ := t1
    exact .inl ⟨a, xs, rfl, .inl ⟨.inl (.inl h1), k_tup R0 k r⟩⟩
/-! ### all, any -/
theorem bools_rep {Γ : Gm} {G : Hp} : ∀ {xs : List V} {ds : List D} {bs : List Bool}, RepAll Γ G xs ds → bools ds = some bs → xs = bs.map V.bl
  | _, _, _, .nil, e => by cases e; rfl
  | _, _, _, .cons (d := d) (ds := ds) h t, e => by
    cases d with
    | bl b =>
      have e : (bools ds).map (b :: ·) = some _ := e
      obtain ⟨bs, e1, e2⟩ := Option.map_eq_some_iff.mp e
      subst e2
      cases h
      rw [List.map_cons, bools_rep t e1]
    | _ => cases e
theorem c_all (hc : X.calm = true) : CallD X cl (.builtin "all") (biD .all) := by
  refine ⟨_, cr_all hc, fun σ env G H v1 x res Q R0 z t1 e k => ?_⟩
  cases x with
  | lst l =>
    have e : (bools l).map (fun bs => R.d (.bl (bs.all id))) = some res := e
    obtain ⟨bs, e1, e2⟩ := Option.map_eq_some_iff.mp e
    subst e2
    obtain ⟨a, xs, rfl, h1, r⟩ := t1
    exact ⟨a, bs, rfl, by rw [← bools_rep r e1]; exact .inl (.inl h1), k_sc R0 k (.bl _)⟩
  | _ => cases e
theorem c_any (hc : X.calm = true) : CallD X cl (.builtin "any") (biD .any) := by
  refine ⟨_, cr_any hc, fun σ env G H v1 x res Q R0 z t1 e k => ?_⟩
  cases x with
  | lst l =>
    have e : (bools l).map (fun bs => R.d (.bl (bs.any id))) = some res := e
    obtain ⟨bs, e1, e2⟩ := Option.map_eq_some_iff.mp e
    subst e2
    obtain ⟨a, xs, rfl, h1, r⟩ := t1
    exact ⟨a, bs, rfl, by rw [← bools_rep r e1]; exact .inl (.inl h1), k_sc R0 k (.bl _)⟩
  | _ => cases e
/-! ### sorted -/
open PySem.W (EachIs) in
theorem each_zip {Γ : Gm} {G : Hp} : ∀ {xs : List V} {ds : List D} {us : List Value}, RepAll Γ G xs ds → Vals xs us → EachIs (fun (u : Value) (b : D × V) => RelV b.2 u ∧ Rep Γ G b.2 b.1) us (ds.zip xs)
  | _, _, _, .nil, .nil => .nil
  | _, _, _, .cons h t, .cons r rs => .cons ⟨r, h⟩ (each_zip t rs)
theorem each_vals {Γ : Gm} {G : Hp} : ∀ {us : List Value} {bs : List (D × V)}, PySem.W.EachIs (fun (u : Value) (b : D × V) => RelV b.2 u ∧ Rep Γ G b.2 b.1) us bs → Vals (bs.map (·.2)) us ∧ RepAll Γ G (bs.map (·.2)) (bs.map (·.1))
  | _, _, .nil => ⟨.nil, .nil⟩
  | _, _, .cons h t => ⟨.cons h.1 (each_vals t).1, .cons h.2 (each_vals t).2⟩
/-- sorted of one item -/
theorem sorts_one {prog : Program} {w : World} {A : Around} {s : Shared} {v : Value} {d : PyData} {as : List Addr} (r : Reads s.heap v d as) (ha : PySem.W.alike d d = true) (hn : d ≠ .none) (hu : A.units + d.depth < cLine) :
    PySem.W.SortsAt prog w A s (PySem.W.dataKind s.heap [d]) [v] := by
  have al : PySem.W.AllAlike [d] := fun x hx y hy => by
    rw [List.mem_singleton] at hx hy
    subst hx hy
    exact ha
  refine ⟨fun u hu => ?_, PyProof.Rows.general', fun E x y a b Q h1 h2 hq => ?_, fun h2 => absurd h2 (by simp)⟩
  · rw [List.mem_singleton] at hu
    subst hu
    exact ⟨_, PySem.W.dataKind_some al (List.mem_singleton.mpr rfl) r⟩
  · obtain ⟨d1, as1, hd1, r1, rfl⟩ := PySem.W.dataKind_inv h1
    obtain ⟨d2, as2, hd2, r2, rfl⟩ := PySem.W.dataKind_inv h2
    rw [List.mem_singleton] at hd1 hd2
    subst hd1 hd2
    exact PySem.W.oneLt_alike (f := false) (fun z => absurd z Bool.false_ne_true) r1 r2 ha hn (by rw [Nat.min_self]; exact hu) hq
theorem sorted_one {prog : Program} {w : World} {A : Around} {E : Value → Shared → Prop} {s : Shared} {a : Addr} {v : Value} {d : PyData} {as : List Addr} {Q : Value → Shared → Prop} (il : s.heap.IsList a [v].toArray) (r : Reads s.heap v d as) (ha : PySem.W.alike d d = true) (hn : d ≠ .none)
    (hu : A.units + 2 + d.depth < cLine) (h : Q (.ref (s.heap.objs.size + 1)) { s with heap := PyProof.Rows.sortedAll s.heap [v] [v].toArray }) : wpAny (model prog w) A (call (.builtin "sorted") [.ref a]) Q E s := by
  have k := PyProof.Rows.Reads.keeps (h' := PySem.W.sortingHeap (PySem.W.copyHeap s.heap [v]) (s.heap.objs.size + 1) [v]) (fun _ _ => PySem.W.sorting_copy_old) r
  have e : PySem.W.sortVals (PySem.W.dataKind (PySem.W.sortingHeap (PySem.W.copyHeap s.heap [v]) (s.heap.objs.size + 1) [v]) [d]) false [v] [v] = [v] := by simp [PySem.W.sortVals]
  refine PySem.W.sorted_vals il (sorts_one (s := { s with heap := PySem.W.sortingHeap (PySem.W.copyHeap s.heap [v]) (s.heap.objs.size + 1) [v] }) k ha hn (show A.units + 1 + 1 + d.depth < cLine by omega)) (show 1 ≤ sizeLine by decide) ?_
  rw [e]
  exact h
theorem zip_fst {α β : Type} : ∀ {l : List α} {m : List β}, l.length = m.length → (l.zip m).map (·.1) = l := by
  intro l m h
  rw [List.map_fst_zip (by omega)]
theorem zip_snd {α β : Type} : ∀ {l : List α} {m : List β}, l.length = m.length → (l.zip m).map (·.2) = m := by
  intro l m h
  rw [List.map_snd_zip (by omega)]
theorem sortOk_parts {l : List D} (h : sortOk l = true) : D.shps 59 l = true ∧ PySem.W.AllAlike (l.map D.py) ∧ (PySem.W.Sortable (l.map D.py) ∨ ∃ d, l = [d] ∧ d.py ≠ .none) := by
  unfold sortOk at h
  rw [Bool.and_eq_true, Bool.and_eq_true, Bool.or_eq_true, Bool.and_eq_true] at h
  obtain ⟨⟨h1, h2⟩, h3⟩ := h
  refine ⟨h1, fun x hx y hy => ?_, ?_⟩
  · obtain ⟨a, ha, rfl⟩ := List.mem_map.mp hx
    obtain ⟨b, hb, rfl⟩ := List.mem_map.mp hy
    exact List.all_eq_true.mp (List.all_eq_true.mp h2 a ha) b hb
  · rcases h3 with h3 | ⟨h3, h4⟩
    · refine .inl ?_
      unfold sortableB at h3
      rw [Bool.or_eq_true] at h3
      rcases h3 with h3 | h3
      · refine .inl fun x hx => ?_
        obtain ⟨a, ha, rfl⟩ := List.mem_map.mp hx
        have q := List.all_eq_true.mp h3 a ha
        cases a with
        | tup m =>
          cases m with
          | nil => cases q
          | cons y r => exact ⟨y.py, D.pys r, by simp [D.py, D.pys]⟩
        | _ => cases q
      · refine .inr fun x hx => ?_
        obtain ⟨a, ha, rfl⟩ := List.mem_map.mp hx
        have q := List.all_eq_true.mp h3 a ha
        cases a with
        | non => cases q
        | tup m => cases q
        | _ => exact ⟨fun z => by simp [D.py] at z, fun m z => by simp [D.py] at z⟩
    · have e : l.length = 1 := by simpa using h3
      match l, e with
      | [d], _ =>
        refine .inr ⟨d, rfl, ?_⟩
        have q := List.all_eq_true.mp h4 d (List.mem_singleton.mpr rfl)
        cases d with
        | non => cases q
        | _ => intro z; simp [D.py] at z
theorem shps_mem : ∀ {n : Nat} {l : List D} {d : D}, D.shps n l = true → d ∈ l → D.shp n d = true
  | n, x :: l, d, h, m => by
    rw [D.shps, Bool.and_eq_true] at h
    rcases List.mem_cons.mp m with rfl | m
    · exact h.1
    · exact shps_mem h.2 m
def rSortD (Γ : Gm) : List V → Hp → VK → Prop := fun vs H Q => ∃ (G : Hp) (a : Addr) (xs : List V) (ds : List D), vs = [.ref a] ∧ H a = some (.lst xs) ∧ Same G H ∧ RepAll Γ G xs ds ∧ sortOk ds = true ∧
  ∀ ys, RepAll Γ G ys (ds.mergeSort (PySem.W.dataLe false D.py)) → ∀ p, H p = none → Q (.ref p) (upd H p (.lst ys))
theorem cr_sortD (hu : X.A.units + 100 < cLine) : CallR X (.builtin "sorted") (rSortD (gm X cl)) := by
  intro pins s σ H vs us Q I r h
  obtain ⟨G, a, xs, ds, rfl, hH, gh, rep, ok, q⟩ := h
  obtain ⟨u, rfl, ru⟩ := vals1 r
  obtain rfl : u = Value.ref a := ru
  obtain ⟨hz, its, n, rv, hl, ho⟩ := I.lstM hH
  obtain ⟨sh, al, so⟩ := sortOk_parts ok
  have len := rep.length
  have ez := each_zip rep rv
  have er : PySem.W.EachIs (fun (u : Value) (b : D × V) => ∃ as, Reads s.heap u b.1.py as) its (ds.zip xs) := by
    refine (PySem.W.each_mem ez).mono fun u b ⟨⟨h1, h2⟩, hb⟩ => ?_
    have hd : b.1 ∈ ds := (List.of_mem_zip hb).1
    exact Dp.reads I _ _ _ (Rep.dp 59 b.1 b.2 (shps_mem sh hd) (Rep.mono gh _ _ h2)) h1
  have em : (ds.zip xs).map (fun b => b.1.py) = ds.map D.py := by
    have e0 : (ds.zip xs).map (fun b => b.1.py) = ((ds.zip xs).map (·.1)).map D.py := by rw [List.map_map]; rfl
    rw [e0, zip_fst len.symm]
  have lz : (ds.zip xs).length = ds.length := by rw [List.length_zip]; omega
  have hdep : ∀ b, b ∈ ds.zip xs → X.A.units + 2 + b.1.py.depth < cLine := fun b hb => by
    have := (shp_lay 59 b.1 (shps_mem sh (List.of_mem_zip hb).1)).2
    omega
  have fin : ∀ out : List Value, out.length = (ds.zip xs).length → PySem.W.EachIs (fun (u : Value) (b : D × V) => RelV b.2 u ∧ Rep (gm X cl) G b.2 b.1) out ((ds.zip xs).mergeSort (PySem.W.dataLe false fun b => b.1.py)) →
      EP X pins σ Q (.ref (s.heap.objs.size + 1)) { s with heap := PyProof.Rows.sortedAll s.heap its (List.toArray out) } := fun out lo eo => by
    obtain ⟨v1, r1⟩ := each_vals eo
    have e2 : ((ds.zip xs).mergeSort (PySem.W.dataLe false fun b => b.1.py)).map (fun b => b.1) = ds.mergeSort (PySem.W.dataLe false D.py) := by
      have q1 := PySem.W.sort_maps (r := PySem.W.dataLe false fun b : D × V => b.1.py) (s := PySem.W.dataLe false D.py) (fun b : D × V => b.1) (l := ds.zip xs) (fun _ _ _ _ => rfl)
      rw [q1]
      exact congrArg (fun l => l.mergeSort (PySem.W.dataLe false D.py)) (zip_fst len.symm)
    rw [e2] at r1
    obtain ⟨c, hc⟩ := PyProof.Rows.sortedAll_at s.heap its (List.toArray out)
    refine ⟨.ref (s.heap.objs.size + 1), _, I.laid (t' := s.toks) (o := .lst (((ds.zip xs).mergeSort (PySem.W.dataLe false fun b => b.1.py)).map (·.2))) (fun _ _ => PyProof.Rows.sortedAll_old) (Nat.le_succ _) ?_, rfl, q _ r1 _ (I.hok.fresh (Nat.le_succ _))⟩
    refine ⟨?_, out, c, v1, hc⟩
    rw [v1.length, lo, lz]
    omega
  have il : s.heap.IsList a its.toArray := ⟨_, ho, rfl, n, rfl⟩
  rcases so with so | ⟨d, rfl, hn⟩
  · exact PySem.W.sorted_data il ez er (by rw [em]; exact al) (by rw [em]; exact so) (by omega) hdep fin
  · cases rep with
    | cons h1 h2 =>
      cases h2
      cases rv with
      | cons rx rn =>
        cases rn
        cases er with
        | cons e1 _ =>
          obtain ⟨as, rd⟩ := e1
          have sh1 : D.shp 59 d = true := shps_mem sh (List.mem_singleton.mpr rfl)
          have dp := (shp_lay 59 d sh1).2
          exact sorted_one (d := d.py) il rd (al _ (by simp) _ (by simp)) hn (by omega) (fin _ rfl (by simpa using ez))
theorem c_sorted (hu : X.A.units + 100 < cLine) : CallD X cl (.builtin "sorted") (biD .sorted) := by
  refine ⟨_, cr_sortD (cl := cl) hu, fun σ env G H v1 x res Q R0 z t1 e k => ?_⟩
  cases x with
  | lst l =>
    have e : (sortD l).map (fun l' => R.own (.lst l')) = some res := e
    obtain ⟨l', e1, e2⟩ := Option.map_eq_some_iff.mp e
    subst e2
    unfold sortD at e1
    split at e1
    · rename_i ok
      cases e1
      obtain ⟨a, xs, rfl, h1, r⟩ := t1
      exact ⟨G, a, xs, l, rfl, h1, R0.gh, r, ok, fun ys ry => k_lst R0 k ry⟩
    · cases e1
  | _ => cases e
end
end Tk

set_option Elab.async false
set_option linter.all false
set_option maxRecDepth 100000
set_option maxHeartbeats 2000000
/-! Ir7: what a for walks; targets. -/
namespace Tk
open PySem PySem.Spec L2
section
variable {X : Cx} {cl : Nat → Addr} {tg e : Expr} {pos : Pos}

/-- an item: as it stands, or a new tuple -/
def ItemR (Γ : Gm) (G H H' : Hp) (x : V) (d : D) : Prop :=
  (H' = H ∧ Rep Γ G x d) ∨ ∃ T xs ds, x = .ref T ∧ H T = none ∧ H' = upd H T (.tup xs) ∧ d = .tup ds ∧ RepAll Γ G xs ds
/-- the iterator gives just these items, while what is frozen stands -/
structure WalkD (Γ : Gm) (J : It) (items : List D) (G : Hp) : Prop where
  go : ∀ i H, i < items.length → Same G H → J.go i H
  stop : ∀ H, Same G H → J.stop items.length H
  yld : ∀ i H x H', i < items.length → Same G H → J.yld i H x H' → ∃ d, items[i]? = some d ∧ ItemR Γ G H H' x d
def tI (Γ : Gm) (ev : En → Res En (List D)) : TI := fun σ H R => ∃ G env, Rel Γ G H σ env ∧ match ev env with
  | .ok items env' => ∀ J G' H', Stp Γ σ G H env G' H' env' → WalkD Γ J items G' → items.length ≤ sizeLine → R J H'
  | _ => False
theorem walk_of_list {Γ : Gm} {G : Hp} {a : Addr} {xs : List V} {ds : List D} (h : SqL Γ.K G a xs) (r : RepAll Γ G xs ds) : WalkD Γ (Itl Γ.K a) ds G := by
  have w := walk_list (K := Γ.K) (a := a) (xs := xs)
  have l := r.length
  refine ⟨fun i H hi e => w.goes i H (by omega) (e.seq h), fun H e => l ▸ w.stops H (e.seq h), fun i H x H' hi e y => ?_⟩
  obtain ⟨q, hx⟩ := w.yields i H x H' (by omega) (e.seq h) y
  obtain ⟨d, hd, rd⟩ := r.get hx
  exact ⟨d, hd, .inl ⟨q, rd⟩⟩
theorem walk_of_tup {Γ : Gm} {G : Hp} {a : Addr} {xs : List V} {ds : List D} (h : SqT Γ.K G a xs) (r : RepAll Γ G xs ds) : WalkD Γ (Itt Γ.K a) ds G := by
  have w := walk_tup (K := Γ.K) (a := a) (xs := xs)
  have l := r.length
  refine ⟨fun i H hi e => w.goes i H (by omega) (same_sqT e h), fun H e => l ▸ w.stops H (same_sqT e h), fun i H x H' hi e y => ?_⟩
  obtain ⟨q, hx⟩ := w.yields i H x H' (by omega) (same_sqT e h) y
  obtain ⟨d, hd, rd⟩ := r.get hx
  exact ⟨d, hd, .inl ⟨q, rd⟩⟩
theorem walk_of_str {Γ : Gm} {G : Hp} {s : Str} : WalkD Γ (Its s) (s.cps.toList.map fun c => .str ⟨#[c]⟩) G := by
  have w := walk_str (z := s)
  have l : (s.cps.toList.map fun c => D.str ⟨#[c]⟩).length = s.cps.size := by simp
  refine ⟨fun i H hi e => w.goes i H (by omega) trivial, fun H e => l ▸ w.stops H trivial, fun i H x H' hi e y => ?_⟩
  obtain ⟨q, c, hc, rfl⟩ := w.yields i H x H' (by omega) trivial y
  exact ⟨.str ⟨#[c]⟩, by rw [List.getElem?_map, Array.getElem?_toList, hc]; rfl, .inl ⟨q, .str _⟩⟩
theorem walk_of_rng {Γ : Gm} {G : Hp} {i j : Int} {l : List D} (h : rng i j = some l) : WalkD Γ (Itr i (j - i).toNat) l G ∧ l.length ≤ sizeLine ∧ -(2 ^ 62) ≤ i ∧ i < 2 ^ 62 ∧ -(2 ^ 62) ≤ j ∧ j < 2 ^ 62 := by
  simp only [rng, Option.ite_none_right_eq_some, Option.some.injEq] at h
  obtain ⟨⟨h1, h2⟩, rfl⟩ := h
  have w := walk_range (lo := i) (n := (j - i).toNat)
  have l : ((List.range (j - i).toNat).map fun (k : Nat) => D.int (i + (k : Nat))).length = (j - i).toNat := by simp
  refine ⟨⟨fun k H hi e => w.goes k H (by omega) trivial, fun H e => by rw [l]; exact w.stops H trivial, fun k H x H' hi e y => ?_⟩, by rw [l]; exact h2, h1⟩
  obtain ⟨q, rfl⟩ := w.yields k H x H' (by omega) trivial y
  refine ⟨.int (i + (k : Nat)), ?_, .inl ⟨q, .int _⟩⟩
  rw [List.getElem?_map, List.getElem?_range (by omega)]
  rfl
theorem rep_ints {Γ : Gm} {G : Hp} : ∀ l : List Int, RepAll Γ G (l.map V.int) (l.map D.int)
  | [] => .nil
  | i :: l => .cons (.int i) (rep_ints l)
/-- a list, a tuple, a text -/
def wAny (K : PySem.W.Frag) (te : TE) : TI := fun σ H R => te σ H fun x H1 => (∃ a, x = .ref a ∧ (∃ xs, SqL K H1 a xs) ∧ R (Itl K a) H1) ∨ (∃ a, x = .ref a ∧ (∃ xs, SqT K H1 a xs) ∧ R (Itt K a) H1) ∨ (∃ s, x = .str s ∧ R (Its s) H1)
theorem pi_any {te : TE} (he : PE X e te) : PI X tg e (wAny X.K te) := by
  constructor
  intro pins s σ H R I h
  refine thn (he.run pins s σ H _ I h) ?_
  rintro v s1 ⟨x, H1, I1, r1, ⟨a, rfl, ⟨xs, hq⟩, q⟩ | ⟨a, rfl, ⟨xs, hq⟩, q⟩ | ⟨z, rfl, q⟩⟩
  · cases r1
    obtain ⟨its, _, p, _⟩ := I1.list hq
    exact wpAny_pyIter_list p.isList (pi_one (tk := s1.toks) I1 _ (turn_list a _) ⟨_, Heap.get?_push_size _ rfl, rfl, rfl⟩ q)
  · cases r1
    obtain ⟨its, _, p, _⟩ := I1.tuple hq
    exact wpAny_pyIter_tuple p (pi_one (tk := s1.toks) I1 _ (turn_tuple a _) ⟨_, Heap.get?_push_size _ rfl, rfl, rfl⟩ q)
  · obtain ⟨t, rfl⟩ := r1
    cases ha : z.cps.all (· < 128) with
    | false => exact wpAny_pyIter_wide ha (pi_one (tk := s1.toks) I1 _ (turn_str _ z t "str_iterator" (.inr rfl)) ⟨_, Heap.get?_push_size _ rfl, rfl, rfl⟩ q)
    | true => exact wpAny_pyIter_ascii ha (pi_one (tk := s1.toks) I1 _ (turn_str _ z t "str_ascii_iterator" (.inl rfl)) ⟨_, Heap.get?_push_size _ rfl, rfl, rfl⟩ q)
theorem s_seq {ea : En → Res En W} (ha : PE X e (tW (gm X cl) ea)) : PI X tg e (tI (gm X cl) fun env => (ea env).bind fun x env1 => match x with
    | .d x => lift (itemsD x) env1
    | .bor _ => .stuck) := by
  refine pi_imp (pi_any ha) fun σ H R ⟨G, env, R0, m⟩ => ⟨G, env, R0, ?_⟩
  dsimp only at m ⊢
  cases qa : ea env with
  | ok x env1 =>
    rw [qa, Res.bind_ok] at m
    intro v G1 H1 s1 w1 z1
    cases x with
    | bor i => exact m.elim
    | d x =>
      dsimp only at m
      cases qi : itemsD x with
      | none => rw [qi] at m; exact m.elim
      | some items =>
        rw [qi] at m
        have w2 : Rep (gm X cl) G1 v x := w1
        clear w1
        cases x with
        | tup l =>
          cases qi
          cases w2 with
          | tup h r => exact .inr (.inl ⟨_, rfl, ⟨_, same_sqT s1.rel.gh h⟩, m _ G1 H1 s1 (walk_of_tup h r) (by rw [← r.length]; exact z1.t _ _ (same_sqT s1.rel.gh h))⟩)
        | lst l =>
          cases qi
          cases w2 with
          | lst h r => exact .inl ⟨_, rfl, ⟨_, .inl (.inl (s1.rel.gh _ _ h))⟩, m _ G1 H1 s1 (walk_of_list (.inl (.inl h)) r) (by rw [← r.length]; exact z1.l _ _ (.inl (.inl (s1.rel.gh _ _ h))))⟩
        | scr l =>
          cases qi
          cases w2 with
          | scr h =>
            have r : RepAll (gm X cl) G1 (l.map V.int) (l.map D.int) := rep_ints l
            exact .inl ⟨_, rfl, ⟨_, s1.rel.gh.seq h⟩, m _ G1 H1 s1 (walk_of_list h r) (by rw [← r.length]; exact z1.l _ _ (s1.rel.gh.seq h))⟩
        | str s =>
          simp only [itemsD, Option.ite_none_right_eq_some, Option.some.injEq] at qi
          obtain ⟨hz, rfl⟩ := qi
          cases w2
          exact .inr (.inr ⟨s, rfl, m _ G1 H1 s1 walk_of_str (by rw [List.length_map, Array.length_toList]; exact hz)⟩)
        | _ => cases qi
  | exc x s => rw [qa] at m; exact m.elim
  | stuck => rw [qa] at m; exact m.elim
theorem s_rng1 {a : Expr} {p : Pos} {ea : En → Res En R} (hg : Gl X "range") (hm : X.mg "range" = none) (ha : PE X a (tX (gm X cl) ea)) (hs : starEach [a] X.env = [(false, eval a X.env)]) :
    PI X tg (.Call (.Name "range" p) [a] [] pos) (tI (gm X cl) fun env => ((ea env).val).bind fun x env1 => match x with
    | .int j => lift (rng 0 j) env1
    | _ => .stuck) := by
  refine pi_imp (pi_range1 hg hm (pa_cons (pe_tX_V ha) pa_nil hs) hs) fun σ H R ⟨G, env, R0, m⟩ => ⟨G, env, R0, ?_⟩
  dsimp only at m ⊢
  cases qa : (ea env).val with
  | ok x env1 =>
    rw [qa, Res.bind_ok] at m
    intro v G1 H1 s1 t1 z1
    cases x with
    | int j =>
      dsimp only at m
      cases qi : rng 0 j with
      | none => rw [qi] at m; exact m.elim
      | some items =>
        rw [qi] at m
        cases top_int t1
        obtain ⟨w, l, a1, a2, a3, a4⟩ := walk_of_rng (Γ := gm X cl) (G := G1) qi
        rw [Int.sub_zero] at w
        exact ⟨j, rfl, a3, a4, m _ G1 H1 s1 w l⟩
    | _ => exact m.elim
  | exc x s => rw [qa] at m; exact m.elim
  | stuck => rw [qa] at m; exact m.elim
theorem s_rng2 {a b : Expr} {p : Pos} {ea eb : En → Res En R} (hg : Gl X "range") (hm : X.mg "range" = none) (ha : PE X a (tX (gm X cl) ea)) (hb : PE X b (tX (gm X cl) eb))
    (hs : starEach [a, b] X.env = [(false, eval a X.env), (false, eval b X.env)]) (hs2 : starEach [b] X.env = [(false, eval b X.env)]) :
    PI X tg (.Call (.Name "range" p) [a, b] [] pos) (tI (gm X cl) fun env => ((ea env).val).bind fun x env1 => ((eb env1).val).bind fun y env2 => match x, y with
    | .int i, .int j => lift (rng i j) env2
    | _, _ => .stuck) := by
  refine pi_imp (pi_range2 hg hm (pa_cons (pe_tX_V ha) (pa_cons (pe_tX_V hb) pa_nil hs2) (hs.trans (by rw [hs2]))) hs hs2) fun σ H R ⟨G, env, R0, m⟩ => ⟨G, env, R0, ?_⟩
  dsimp only at m ⊢
  cases qa : (ea env).val with
  | ok x env1 =>
    rw [qa, Res.bind_ok] at m
    intro v G1 H1 s1 t1 z1
    refine ⟨G1, env1, s1.rel, ?_⟩
    dsimp only
    cases qb : (eb env1).val with
    | ok y env2 =>
      rw [qb, Res.bind_ok] at m
      intro v2 G2 H2 s2 t2 z2
      cases x with
      | int i =>
        cases y with
        | int j =>
          dsimp only at m
          cases qi : rng i j with
          | none => rw [qi] at m; exact m.elim
          | some items =>
            rw [qi] at m
            cases top_int t1; cases top_int t2
            obtain ⟨w, l, a1, a2, a3, a4⟩ := walk_of_rng (Γ := gm X cl) (G := G2) qi
            exact ⟨i, j, rfl, ⟨a1, a2, a3, a4⟩, m _ G2 H2 (s1.trans s2) w l⟩
        | _ => exact m.elim
      | _ => exact m.elim
    | exc x s => rw [qb] at m; exact m.elim
    | stuck => rw [qb] at m; exact m.elim
  | exc x s => rw [qa] at m; exact m.elim
  | stuck => rw [qa] at m; exact m.elim
end
end Tk

set_option Elab.async false
set_option linter.all false
set_option maxRecDepth 100000
set_option maxHeartbeats 2000000
/-! Ir8: targets, comprehensions. -/
namespace Tk
open PySem PySem.Spec L2
section
variable {X : Cx} {cl : Nat → Addr} {tg e : Expr} {pos : Pos}

/-! ### slots stored -/
theorem get_set {α : Type} (l : List α) (i j : Nat) (x : α) : (l.set i x)[j]? = if i = j then (if i < l.length then some x else none) else l[j]? := by
  by_cases h : i = j
  · subst h
    rw [if_pos rfl]
    by_cases hl : i < l.length
    · rw [if_pos hl, List.getElem?_set_self hl]
    · rw [if_neg hl, List.getElem?_eq_none]
      rw [List.length_set]; omega
  · rw [if_neg h, List.getElem?_set_ne h]
/-- slot i holds a frozen datum -/
theorem Rel.setD {Γ : Gm} {G H : Hp} {σ : L2.St} {env : En} {v : V} {d : D} (R0 : Rel Γ G H σ env) (i : Nat) (r : Rep Γ G v d) : Rel Γ G H (σ.set i (some v)) (env.set i (some (.d d))) where
  len := by rw [List.length_set, List.length_set]; exact R0.len
  gh := R0.gh
  slot := fun j s h => by
    rw [get_set] at h ⊢
    by_cases hj : i = j
    · subst hj
      rw [if_pos rfl] at h ⊢
      by_cases hl : i < env.length
      · rw [if_pos hl] at h
        rw [if_pos (by rw [R0.len]; exact hl)]
        cases h
        exact ⟨v, rfl, r⟩
      · rw [if_neg hl] at h; cases h
    · rw [if_neg hj] at h ⊢
      exact R0.slot j s h
  sep := fun j k s s' c c' h1 h2 h3 h4 h5 => by
    have ne : ∀ (j : Nat) (s : S) (c : C), (env.set i (some (.d d)))[j]? = some (some s) → s.cell = some c → i ≠ j := fun j s c h1 h2 z => by
      subst z
      rw [get_set, if_pos rfl] at h1
      split at h1
      · cases h1; cases h2
      · cases h1
    have n1 := ne j s c h1 h2
    have n2 := ne k s' c' h3 h4
    rw [List.getElem?_set_ne n1] at h1 h5
    rw [List.getElem?_set_ne n2] at h3 h5
    exact R0.sep j k s s' c c' h1 h2 h3 h4 h5
theorem bindNames_length : ∀ (l : List Nat) (ds : List D) (env env' : En), bindNames l ds env = some env' → env'.length = env.length
  | [], [], _, _, h => by cases h; rfl
  | i :: l, d :: ds, env, env', h => by rw [bindNames_length l ds _ env' h, List.length_set]
  | [], _ :: _, _, _, h => by cases h
  | _ :: _, [], _, _, h => by cases h
theorem bindNames_get : ∀ (l : List Nat) (ds : List D) (env env' : En), bindNames l ds env = some env' → ∀ j, j ∉ l → env'[j]? = env[j]?
  | [], [], _, _, h, j, _ => by cases h; rfl
  | i :: l, d :: ds, env, env', h, j, hj => by
    rw [bindNames_get l ds _ env' h j fun z => hj (List.mem_cons_of_mem _ z), List.getElem?_set_ne fun z => hj (by rw [z]; exact List.mem_cons_self)]
  | [], _ :: _, _, _, h, _, _ => by cases h
  | _ :: _, [], _, _, h, _, _ => by cases h
/-- names stored one after another -/
def tGs (Γ : Gm) (l : List Nat) : TGs := fun vs σ H Q => ∃ G env ds, Rel Γ G H σ env ∧ RepAll Γ G vs ds ∧ match bindNames l ds env with
  | some env' => ∀ σ', Rel Γ G H σ' env' → (∀ j, j ∉ l → σ'[j]? = σ[j]?) → Q σ' H
  | none => False
def tG (Γ : Gm) (t : IT) : TG := fun v σ H Q => ∃ G env d, Rel Γ G H σ env ∧ Rep Γ G v d ∧ match bindT t d env with
  | some env' => ∀ σ', Rel Γ G H σ' env' → (∀ j, j ∉ t.slots → σ'[j]? = σ[j]?) → Q σ' H
  | none => False
/-- a name that may be stored here -/
structure Stor (X : Cx) (i : Nat) (x : Str) : Prop where
  ix : X.N[i]? = some x
  loc : Loc X.env.scope x
  fn : X.fn x = true ∨ X.env.scope.names.lookup x = some .local
theorem s_gname {i : Nat} {x : Str} (hN : X.N.Nodup) (h : Stor X i x) : PG X (.Name x pos) (tG (gm X cl) (.name i)) :=
  pg_imp (pg_name hN h.ix h.loc h.fn) fun v σ H Q ⟨G, env, d, R0, r, m⟩ => m _ (R0.setD i r) fun j hj => List.getElem?_set_ne fun z => hj (by rw [← z]; exact List.mem_singleton.mpr rfl)
inductive Stors (X : Cx) : List Nat → List Expr → Prop
  | nil : Stors X [] []
  | cons {i : Nat} {x : Str} {p : Pos} {l : List Nat} {es : List Expr} : Stor X i x → Stors X l es → Stors X (i :: l) (.Name x p :: es)
theorem pgs_imp {es : List Expr} {t t0 : TGs} (h : PGs X es t0) (i : ∀ vs σ H Q, t vs σ H Q → t0 vs σ H Q) : PGs X es t := ⟨fun pins s σ H vs us Q I r z => h.run pins s σ H vs us Q I r (i vs σ H Q z)⟩
theorem s_gnames (hN : X.N.Nodup) : ∀ {l : List Nat} {es : List Expr}, Stors X l es → PGs X es (tGs (gm X cl) l)
  | _, _, .nil => pgs_imp pgs_nil fun vs σ H Q ⟨G, env, ds, R0, r, m⟩ => by
    cases r with
    | nil => exact ⟨rfl, m σ R0 fun _ _ => rfl⟩
    | cons _ _ => exact m.elim
  | _, _, .cons (i := i) (l := l) h t => pgs_imp (pgs_cons (pg_name hN h.ix h.loc h.fn) (s_gnames hN t) rfl) fun vs σ H Q ⟨G, env, ds, R0, r, m⟩ => by
    cases r with
    | nil => exact m.elim
    | @cons v vs d ds r1 r2 =>
      refine ⟨v, vs, rfl, G, env.set i (some (.d d)), ds, R0.setD i r1, r2, ?_⟩
      have m : (match bindNames l ds (env.set i (some (.d d))) with
        | some env' => ∀ σ', Rel (gm X cl) G H σ' env' → (∀ j, j ∉ i :: l → σ'[j]? = σ[j]?) → Q σ' H
        | none => False) := m
      cases q : bindNames l ds (env.set i (some (.d d))) with
      | none => rw [q] at m; exact m.elim
      | some env' =>
        rw [q] at m
        refine fun σ' R1 k => m σ' R1 fun j hj => ?_
        rw [k j fun z => hj (List.mem_cons_of_mem _ z), List.getElem?_set_ne fun z => hj (by rw [← z]; exact List.mem_cons_self)]
theorem stors_len : ∀ {l : List Nat} {es : List Expr}, Stors X l es → (assignEach es X.env).length = l.length ∧ (assignEach es X.env).findIdx? (·.1) = none
  | _, _, .nil => ⟨rfl, rfl⟩
  | _, _, .cons (x := x) (p := p) (es := es) h t => by
    obtain ⟨a, b⟩ := stors_len t
    have e : assignEach (.Name x p :: es) X.env = (false, assign (.Name x p) X.env) :: assignEach es X.env := rfl
    rw [e]
    exact ⟨by simp [a], by rw [List.findIdx?_cons]; simp [b]⟩
theorem bindNames_len : ∀ {l : List Nat} {ds : List D} {env env' : En}, bindNames l ds env = some env' → ds.length = l.length
  | [], [], _, _, _ => rfl
  | i :: l, d :: ds, env, env', h => by simpa using bindNames_len (l := l) h
  | [], _ :: _, _, _, h => by cases h
  | _ :: _, [], _, _, h => by cases h
theorem s_gtup {l : List Nat} {es : List Expr} {k : Nat} (hc : X.calm = true) (hN : X.N.Nodup) (h : Stors X l es) : PG X (.Tuple es k pos) (tG (gm X cl) (.tup l)) := by
  obtain ⟨a, b⟩ := stors_len h
  refine pg_imp (pg_tup hc (s_gnames (cl := cl) hN h) a b) fun v σ H Q ⟨G, env, d, R0, r, m⟩ => ?_
  cases r with
  | @tup a xs ds hs r =>
    have m : (match bindNames l ds env with
      | some env' => ∀ σ', Rel (gm X cl) G H σ' env' → (∀ j, j ∉ l → σ'[j]? = σ[j]?) → Q σ' H
      | none => False) := m
    refine ⟨a, xs, rfl, same_sqT R0.gh hs, ?_, G, env, ds, R0, r, m⟩
    cases q : bindNames l ds env with
    | none => rw [q] at m; exact m.elim
    | some env' => rw [r.length, bindNames_len q]
  | _ => exact m.elim

/-! ### a block's own slots -/
theorem wipeE_get (env : En) (i : Nat) : ∀ vs : List Nat, (wipeE env vs)[i]? = if i ∈ vs then (if i < env.length then some none else none) else env[i]?
  | [] => by rw [if_neg (by simp)]; rfl
  | v :: vs => by
    have hl : ∀ vs : List Nat, (wipeE env vs).length = env.length := fun vs => by
      induction vs with
      | nil => rfl
      | cons v vs ih => show ((wipeE env vs).set v none).length = _; rw [List.length_set, ih]
    show ((wipeE env vs).set v none)[i]? = _
    rw [get_set, wipeE_get env i vs, hl]
    by_cases h : v = i
    · subst h
      rw [if_pos rfl, if_pos List.mem_cons_self]
    · rw [if_neg h]
      by_cases h2 : i ∈ vs
      · rw [if_pos h2, if_pos (List.mem_cons_of_mem _ h2)]
      · rw [if_neg h2, if_neg fun z => (List.mem_cons.mp z).elim (fun q => h q.symm) h2]
theorem wipe_get (σ : L2.St) (i : Nat) : ∀ vs : List Nat, (wipe σ vs)[i]? = if i ∈ vs then (if i < σ.length then some none else none) else σ[i]?
  | [] => by rw [if_neg (by simp)]; rfl
  | v :: vs => by
    show ((wipe σ vs).set v none)[i]? = _
    rw [get_set, wipe_get σ i vs, wipe_length]
    by_cases h : v = i
    · subst h
      rw [if_pos rfl, if_pos List.mem_cons_self]
    · rw [if_neg h]
      by_cases h2 : i ∈ vs
      · rw [if_pos h2, if_pos (List.mem_cons_of_mem _ h2)]
      · rw [if_neg h2, if_neg fun z => (List.mem_cons.mp z).elim (fun q => h q.symm) h2]
theorem wipeE_length (env : En) : ∀ vs : List Nat, (wipeE env vs).length = env.length
  | [] => rfl
  | v :: vs => by show ((wipeE env vs).set v none).length = _; rw [List.length_set, wipeE_length env vs]
theorem wipeE_some {env : En} {vs : List Nat} {i : Nat} {s : S} (h : (wipeE env vs)[i]? = some (some s)) : i ∉ vs ∧ env[i]? = some (some s) := by
  rw [wipeE_get] at h
  by_cases hi : i ∈ vs
  · rw [if_pos hi] at h
    split at h <;> cases h
  · rw [if_neg hi] at h
    exact ⟨hi, h⟩
theorem wipeE_out {env : En} {vs : List Nat} {i : Nat} (h : i ∉ vs) : (wipeE env vs)[i]? = env[i]? := by rw [wipeE_get, if_neg h]
theorem wipe_not {σ : L2.St} {vs : List Nat} {i : Nat} (h : i ∉ vs) : (wipe σ vs)[i]? = σ[i]? := by rw [wipe_get, if_neg h]
theorem Rel.wipe {Γ : Gm} {G H : Hp} {σ : L2.St} {env : En} (R0 : Rel Γ G H σ env) (vs : List Nat) : Rel Γ G H (L2.wipe σ vs) (wipeE env vs) where
  len := by rw [wipe_length, wipeE_length]; exact R0.len
  gh := R0.gh
  slot := fun i s h => by
    obtain ⟨hi, h⟩ := wipeE_some h
    rw [wipe_not hi]
    exact R0.slot i s h
  sep := fun i j s s' c c' h1 h2 h3 h4 h5 => by
    obtain ⟨hi, h1⟩ := wipeE_some h1
    obtain ⟨hj, h3⟩ := wipeE_some h3
    rw [wipe_not hi, wipe_not hj] at h5
    exact R0.sep i j s s' c c' h1 h2 h3 h4 h5
theorem Fp.wipe {σ : L2.St} {env : En} {vs : List Nat} {a : Addr} (h : Fp (L2.wipe σ vs) (wipeE env vs) a) : ∃ (i : Nat) (s : S) (c : C), i ∉ vs ∧ env[i]? = some (some s) ∧ s.cell = some c ∧ σ[i]? = some (some (.ref a)) := by
  obtain ⟨i, s, c, h1, h2, h3⟩ := h
  obtain ⟨hi, h1⟩ := wipeE_some h1
  rw [wipe_not hi] at h3
  exact ⟨i, s, c, hi, h1, h2, h3⟩
theorem backE_length (env env' : En) : ∀ vs : List Nat, (backE env env' vs).length = env'.length
  | [] => rfl
  | v :: vs => by show ((backE env env' vs).set v _).length = _; rw [List.length_set, backE_length env env' vs]
theorem backE_get (env env' : En) (hl : env'.length = env.length) (i : Nat) : ∀ vs : List Nat, (backE env env' vs)[i]? = if i ∈ vs then env[i]? else env'[i]?
  | [] => by rw [if_neg (by simp)]; rfl
  | v :: vs => by
    show ((backE env env' vs).set v (match env[v]? with | some s => s | none => none))[i]? = _
    rw [get_set, backE_get env env' hl i vs, backE_length]
    by_cases h : v = i
    · subst h
      rw [if_pos rfl, if_pos List.mem_cons_self]
      by_cases hv : v < env'.length
      · rw [if_pos hv]
        have hv' : v < env.length := by omega
        rw [List.getElem?_eq_getElem hv']
      · rw [if_neg hv, List.getElem?_eq_none (by omega)]
    · rw [if_neg h]
      by_cases h2 : i ∈ vs
      · rw [if_pos h2, if_pos (List.mem_cons_of_mem _ h2)]
      · rw [if_neg h2, if_neg fun z => (List.mem_cons.mp z).elim (fun q => h q.symm) h2]
/-- slots bound within a block -/
theorem bindT_get {t : IT} {d : D} {env env' : En} (h : bindT t d env = some env') : ∀ j, j ∉ t.slots → env'[j]? = env[j]? := fun j hj => by
  cases t with
  | name i => cases h; exact List.getElem?_set_ne fun z => hj (by rw [← z]; exact List.mem_singleton.mpr rfl)
  | tup l =>
    cases d with
    | tup ds => exact bindNames_get l ds env env' h j hj
    | _ => cases h
theorem bindT_length {t : IT} {d : D} {env env' : En} (h : bindT t d env = some env') : env'.length = env.length := by
  cases t with
  | name i => cases h; rw [List.length_set]
  | tup l =>
    cases d with
    | tup ds => exact bindNames_length l ds env env' h
    | _ => cases h
/-- a step within the block, from bound slots, seen from the wiped slots -/
theorem Le.wiped {env env1 env2 : En} {vs : List Nat} (hl : env1.length = (wipeE env vs).length) (hb : ∀ j, j ∉ vs → env1[j]? = (wipeE env vs)[j]?) (h : Le env1 env2) : Le (wipeE env vs) (wipeE env2 vs) where
  len := by rw [wipeE_length, h.len, hl]
  own := fun i s c h1 h2 => by
    obtain ⟨hi, h1⟩ := wipeE_some h1
    obtain ⟨s', c', h3, h4⟩ := h.own i s c h1 h2
    rw [hb i hi] at h3
    exact ⟨s', c', h3, h4⟩
  io := fun i c h1 => by
    obtain ⟨hi, _⟩ := wipeE_some h1
    rw [← hb i hi] at h1
    obtain ⟨c', h2⟩ := h.io i c h1
    exact ⟨c', by rw [wipeE_out hi]; exact h2⟩
  io' := fun i c h1 => by
    obtain ⟨hi, h1⟩ := wipeE_some h1
    obtain ⟨c', h2⟩ := h.io' i c h1
    rw [hb i hi] at h2
    exact ⟨c', h2⟩
end
end Tk

set_option Elab.async false
set_option linter.all false
set_option maxRecDepth 100000
set_option maxHeartbeats 2000000
/-! Ir9: list comprehensions. -/
namespace Tk
open PySem PySem.Spec L2
section
variable {X : Cx} {cl : Nat → Addr} {tg e : Expr} {pos : Pos}

/-- out of a block: its own slots as they were -/
theorem Rel.back {Γ : Gm} {G1 H1 G' H' : Hp} {σ : L2.St} {env1 env2 : En} {vs : List Nat} (R1 : Rel Γ G1 H1 σ env1) (R2 : Rel Γ G' H' (L2.wipe σ vs) (wipeE env2 vs)) (k : Keep G1 H1 (Fp (L2.wipe σ vs) (wipeE env1 vs)) G' H')
    (l : Le (wipeE env1 vs) (wipeE env2 vs)) : Rel Γ G' H' σ (backE env1 env2 vs) ∧ Le env1 (backE env1 env2 vs) := by
  have hl : env2.length = env1.length := by have := l.len; rwa [wipeE_length, wipeE_length] at this
  have out : ∀ (i : Nat) (s : S), i ∉ vs → (backE env1 env2 vs)[i]? = some (some s) → (wipeE env2 vs)[i]? = some (some s) := fun i s hi h => by
    rw [backE_get env1 env2 hl, if_neg hi] at h
    rw [wipeE_out hi]; exact h
  have le : Le env1 (backE env1 env2 vs) := by
    refine ⟨by rw [backE_length, hl], fun i s c h1 h2 => ?_, fun i c h1 => ?_, fun i c h1 => ?_⟩
    · by_cases hi : i ∈ vs
      · rw [backE_get env1 env2 hl, if_pos hi] at h1; exact ⟨s, c, h1, h2⟩
      · obtain ⟨s', c', h3, h4⟩ := l.own i s c (out i s hi h1) h2
        rw [wipeE_out hi] at h3; exact ⟨s', c', h3, h4⟩
    · by_cases hi : i ∈ vs
      · exact ⟨c, by rw [backE_get env1 env2 hl, if_pos hi]; exact h1⟩
      · obtain ⟨c', h2⟩ := l.io i c (by rw [wipeE_out hi]; exact h1)
        rw [wipeE_out hi] at h2
        exact ⟨c', by rw [backE_get env1 env2 hl, if_neg hi]; exact h2⟩
    · by_cases hi : i ∈ vs
      · rw [backE_get env1 env2 hl, if_pos hi] at h1; exact ⟨c, h1⟩
      · obtain ⟨c', h2⟩ := l.io' i c (out i _ hi h1)
        rw [wipeE_out hi] at h2; exact ⟨c', h2⟩
  refine ⟨⟨by rw [backE_length, hl]; exact R1.len, R2.gh, fun i s h => ?_, fun i j s s' c c' h1 h2 h3 h4 h5 => ?_⟩, le⟩
  · by_cases hi : i ∈ vs
    · rw [backE_get env1 env2 hl, if_pos hi] at h
      obtain ⟨v, e1, r⟩ := R1.slot i s h
      refine ⟨v, e1, r.keep k.ss (fun a c hc ha => ?_) fun a o c hc ha ho => ?_⟩
      · subst ha
        have f := R1.fp_g ⟨i, s, c, h, hc, e1⟩
        cases q : G' a with
        | none => rfl
        | some o =>
          rcases k.nw a (by rw [q]; exact fun z => nomatch z) with z | z | z
          · exact absurd f.1 z
          · exact absurd z f.2
          · obtain ⟨j, s2, c2, hj, e2, e3, e4⟩ := z.wipe
            exact absurd (R1.sep j i s2 s c2 c e2 e3 h hc (e4.trans e1.symm)) fun z => hj (z ▸ hi)
      · subst ha
        refine k.fr a o ho fun z => ?_
        obtain ⟨j, s2, c2, hj, e2, e3, e4⟩ := z.wipe
        exact absurd (R1.sep j i s2 s c2 c e2 e3 h hc (e4.trans e1.symm)) fun z => hj (z ▸ hi)
    · have h' := out i s hi h
      obtain ⟨v, e1, r⟩ := R2.slot i s h'
      rw [wipe_not hi] at e1
      exact ⟨v, e1, r⟩
  · obtain ⟨a1, a2, a3, a4⟩ := le.own i s c h1 h2
    obtain ⟨b1, b2, b3, b4⟩ := le.own j s' c' h3 h4
    exact R1.sep i j a1 b1 a2 b2 a3 a4 b3 b4 h5
theorem bindNames_own : ∀ {l : List Nat} {ds : List D} {env env' : En} {j : Nat} {s : S} {c : C}, bindNames l ds env = some env' → env'[j]? = some (some s) → s.cell = some c → env[j]? = some (some s)
  | [], [], _, _, _, _, _, h, h1, _ => by cases h; exact h1
  | i :: l, d :: ds, env, env', j, s, c, h, h1, h2 => by
    have q := bindNames_own (l := l) h h1 h2
    rw [get_set] at q
    split at q
    · split at q
      · cases q; cases h2
      · cases q
    · exact q
  | [], _ :: _, _, _, _, _, _, h, _, _ => by cases h
  | _ :: _, [], _, _, _, _, _, h, _, _ => by cases h
theorem bindT_own {t : IT} {d : D} {env env' : En} {j : Nat} {s : S} {c : C} (h : bindT t d env = some env') (h1 : env'[j]? = some (some s)) (h2 : s.cell = some c) : env[j]? = some (some s) := by
  cases t with
  | name i =>
    cases h
    rw [get_set] at h1
    split at h1
    · split at h1
      · cases h1; cases h2
      · cases h1
    · exact h1
  | tup l =>
    cases d with
    | tup ds => exact bindNames_own h h1 h2
    | _ => cases h
/-- the item that comes: frozen -/
theorem item_rel {Γ : Gm} {G1 G H H' : Hp} {σ : L2.St} {env : En} {x : V} {d : D} (R : Rel Γ G H σ env) (ss : Same G1 G) (it : ItemR Γ G1 H H' x d) :
    ∃ G', Rel Γ G' H' σ env ∧ Rep Γ G' x d ∧ Keep G H (fun _ => False) G' H' ∧ ∀ b, H b ≠ none → H' b = H b ∧ G' b = G b := by
  rcases it with ⟨rfl, r⟩ | ⟨T, xs, ds, rfl, hT, rfl, rfl, r⟩
  · exact ⟨G, R, Rep.mono ss _ _ r, .refl, fun b _ => ⟨rfl, rfl⟩⟩
  · refine ⟨upd G T (.tup xs), R.lay hT, .tup (.inl (.inl upd_same)) ((r.mono ss).mono (same_upd (R.gh.free hT))), .lay R.gh hT, fun b hb => ?_⟩
    have ne : b ≠ T := fun z => by subst z; exact hb hT
    rw [upd_ne ne, upd_ne ne]
    exact ⟨rfl, rfl⟩
/-- within a block, from bound slots -/
theorem fp_bound {σ σ2 : L2.St} {env en1 : En} {vs : List Nat} {t : IT} {d : D} {a : Addr} (hb : bindT t d (wipeE env vs) = some en1) (hv : ∀ j ∈ t.slots, j ∈ vs) (hs : ∀ j, j ∉ t.slots → σ2[j]? = (L2.wipe σ vs)[j]?) (f : Fp σ2 en1 a) :
    Fp (L2.wipe σ vs) (wipeE env vs) a := by
  obtain ⟨j, s, c, h1, h2, h3⟩ := f
  have h4 := bindT_own hb h1 h2
  have hj : j ∉ t.slots := fun z => (wipeE_some h4).1 (hv j z)
  rw [hs j hj] at h3
  exact ⟨j, s, c, h4, h2, h3⟩
theorem wipe_bound {σ σ2 : L2.St} {vs : List Nat} {l : List Nat} (hl : σ2.length = σ.length) (hv : ∀ j ∈ l, j ∈ vs) (hs : ∀ j, j ∉ l → σ2[j]? = (L2.wipe σ vs)[j]?) : L2.wipe σ2 vs = L2.wipe σ vs := by
  apply List.ext_getElem?
  intro j
  rw [wipe_get, wipe_get, hl]
  by_cases hj : j ∈ vs
  · rw [if_pos hj, if_pos hj]
  · rw [if_neg hj, if_neg hj, hs j fun z => hj (hv j z), wipe_not hj]
/-- the invariant of a comprehension's turns -/
structure LcI (Γ : Gm) (t : IT) (vs : List Nat) (ec : En → Res En Bool) (ee : En → Res En R) (items ys : List D) (σ : L2.St) (G1 H1 : Hp) (env1 env2 : En) (A : Addr) (i : Nat) (H : Hp) : Prop where
  ex : ∃ (G : Hp) (en : En) (acc : List V) (ds zs : List D), Rel Γ G H (L2.wipe σ vs) (wipeE en vs) ∧ Le (wipeE env1 vs) (wipeE en vs) ∧ Keep G1 H1 (Fp (L2.wipe σ vs) (wipeE env1 vs)) G H ∧ H A = some (.lst acc) ∧ G A = none ∧ RepAll Γ G acc ds ∧
    ys = ds ++ zs ∧ lcGo t vs ec ee (items.drop i) en = .ok zs env2 ∧ acc.length ≤ i
theorem lc_ev {t : IT} {vs : List Nat} {ei : En → Res En (List D)} {ec : En → Res En Bool} {ee : En → Res En R} (hv : ∀ j ∈ t.slots, j ∈ vs) {σ : L2.St} {H : Hp} {Q : VK}
    (z : tX (gm X cl) (fun env => (ei env).bind fun items env1 => (lcGo t vs ec ee items env1).bind fun ys env2 => .ok (.own (.lst ys)) (backE env1 env2 vs)) σ H Q) :
    tLc (tI (gm X cl) ei) (tG (gm X cl) t) (tT (gm X cl) ec) (tW (gm X cl) fun env => (ee env).frz) vs σ H (fun v H' => Sz X.K H' → Q v H') := by
  obtain ⟨G, env, R0, m⟩ := z
  refine ⟨G, env, R0, ?_⟩
  dsimp only at m ⊢
  cases qi : ei env with
  | exc x s => rw [qi] at m; exact m.elim
  | stuck => rw [qi] at m; exact m.elim
  | ok items env1 =>
  rw [qi, Res.bind_ok] at m
  intro J G1 H1 s1 w hz A hA
  cases ql : lcGo t vs ec ee items env1 with
  | exc x s => rw [ql] at m; exact m.elim
  | stuck => rw [ql] at m; exact m.elim
  | ok ys env2 =>
  rw [ql, Res.bind_ok] at m
  have R1 := s1.rel
  have nfp : ∀ a, Fp (L2.wipe σ vs) (wipeE env1 vs) a → H1 a ≠ none := fun a f => by
    obtain ⟨j, s, c, _, h2, h3, h4⟩ := f.wipe
    exact (R1.fp_g ⟨j, s, c, h2, h3, h4⟩).2
  refine ⟨fun i m H' => m = items.length - i ∧ i ≤ items.length ∧ LcI (gm X cl) t vs ec ee items ys σ G1 H1 env1 env2 A i H', ⟨items.length, by simp, Nat.zero_le _, ⟨G1, env1, [], [], ys, ?_, .refl _, .lay' hA, upd_same, R1.gh.free hA, .nil, rfl, by simpa using ql, Nat.le_refl _⟩⟩, ?_⟩
  · exact (R1.lay' hA).wipe vs
  rintro i mm H' ⟨rfl, hile, ⟨G', en, acc, ds, zs, R', le', k', hD, gD, rA, rfl, hgo, hlen⟩⟩
  by_cases hlt : i < items.length
  · refine .inr ⟨w.go i H' hlt (k'.ss.trans R'.gh), fun H'' => LcI (gm X cl) t vs ec ee items (ds ++ zs) σ G1 H1 env1 env2 A (i + 1) H'', fun H'' p => ⟨items.length - (i + 1), by omega, rfl, hlt, p⟩, fun xv H2 hy => ?_⟩
    obtain ⟨d, hd, ir⟩ := w.yld i H' xv H2 hlt (k'.ss.trans R'.gh) hy
    obtain ⟨G2, R2, rx, k2, st2⟩ := item_rel R' k'.ss ir
    have hDn : H' A ≠ none := by rw [hD]; exact fun z => nomatch z
    obtain ⟨hD2, gD2⟩ := st2 A hDn
    rw [List.drop_eq_getElem_cons hlt] at hgo
    have ed : items[i] = d := by rw [List.getElem?_eq_getElem hlt] at hd; exact Option.some.inj hd
    rw [ed] at hgo
    have hgo : (match bindT t d (wipeE en vs) with
      | none => (.stuck : Res En (List D))
      | some env1 => (ec env1).bind fun b env2 => if b = true then ((ee env2).frz).bind fun w env3 => match w with
          | .d y => (lcGo t vs ec ee (items.drop (i + 1)) env3).bind fun ys env4 => .ok (y :: ys) env4
          | .bor _ => .stuck
        else lcGo t vs ec ee (items.drop (i + 1)) env2) = .ok zs env2 := hgo
    cases qb : bindT t d (wipeE en vs) with
    | none => rw [qb] at hgo; cases hgo
    | some en1 =>
    rw [qb] at hgo
    refine ⟨G2, wipeE en vs, d, R2, rx, ?_⟩
    rw [qb]
    intro σ2 R3 hσ
    have hl2 : σ2.length = σ.length := by
      have h1 := R3.len
      have h2 := bindT_length qb
      have h3 := R2.len
      rw [wipe_length] at h3
      omega
    have hw : L2.wipe σ2 vs = L2.wipe σ vs := wipe_bound hl2 hv hσ
    have fpb : ∀ a, Fp σ2 en1 a → Fp (L2.wipe σ vs) (wipeE env1 vs) a := fun a f => le'.fp (fp_bound qb hv hσ f)
    have nD : ¬ Fp σ2 en1 A := fun f => nfp A (fpb A f) hA
    have kb : Keep G1 H1 (Fp (L2.wipe σ vs) (wipeE env1 vs)) G2 H2 := k'.trans (k2.mono fun _ z => z.elim) fun x f => .inl (le'.fp f)
    refine ⟨hw, G2, en1, R3, ?_⟩
    dsimp only at hgo ⊢
    cases qc : ec en1 with
    | exc x s => rw [qc] at hgo; cases hgo
    | stuck => rw [qc] at hgo; cases hgo
    | ok b en2 =>
    rw [qc, Res.bind_ok] at hgo
    intro G3 H3 st3 _
    have hD3 : H3 A = some (.lst acc) := st3.keep.fr A _ (hD2.trans hD) nD
    have gD3 : G3 A = none := by
      cases q : G3 A with
      | none => rfl
      | some o =>
        rcases st3.keep.nw A (by rw [q]; exact fun z => nomatch z) with z | z | z
        · exact absurd (gD2.trans gD) z
        · rw [hD2, hD] at z; cases z
        · exact absurd z nD
    have kb3 : Keep G1 H1 (Fp (L2.wipe σ vs) (wipeE env1 vs)) G3 H3 := kb.trans st3.keep fun x f => .inl (fpb x f)
    have leb : ∀ en', Le en1 en' → Le (wipeE env1 vs) (wipeE en' vs) := fun en' l => le'.trans (Le.wiped (bindT_length qb) (fun j hj => bindT_get qb j fun z => hj (hv j z)) l)
    cases b with
    | false =>
      rw [if_neg Bool.false_ne_true] at hgo ⊢
      have R4 := st3.rel.wipe vs
      rw [hw] at R4
      exact ⟨G3, en2, acc, ds, zs, R4, leb en2 st3.le, kb3, hD3, gD3, rA.mono ((k2.ss).trans st3.keep.ss), rfl, hgo, by omega⟩
    | true =>
      rw [if_pos rfl] at hgo ⊢
      refine ⟨G3, en2, st3.rel, ?_⟩
      dsimp only
      cases qe : (ee en2).frz with
      | exc x s => rw [qe] at hgo; cases hgo
      | stuck => rw [qe] at hgo; cases hgo
      | ok wv en3 =>
      rw [qe, Res.bind_ok] at hgo
      intro v4 G4 H4 st4 w4 _
      cases wv with
      | bor j => cases hgo
      | d y =>
      dsimp only at hgo
      cases qr : lcGo t vs ec ee (items.drop (i + 1)) en3 with
      | exc x s => rw [qr] at hgo; cases hgo
      | stuck => rw [qr] at hgo; cases hgo
      | ok zs' env2' =>
      rw [qr, Res.bind_ok] at hgo
      cases hgo
      have nD2 : ¬ Fp σ2 en2 A := fun f => nD (st3.le.fp f)
      have hD4 : H4 A = some (.lst acc) := st4.keep.fr A _ hD3 nD2
      have gD4 : G4 A = none := by
        cases q : G4 A with
        | none => rfl
        | some o =>
          rcases st4.keep.nw A (by rw [q]; exact fun z => nomatch z) with z | z | z
          · exact absurd gD3 z
          · rw [hD3] at z; cases z
          · exact absurd z nD2
      have kb4 : Keep G1 H1 (Fp (L2.wipe σ vs) (wipeE env1 vs)) G4 H4 := kb3.trans st4.keep fun x f => .inl (fpb x (st3.le.fp f))
      have le4 := leb en3 (st3.le.trans st4.le)
      have R5 := st4.rel.wipe vs
      rw [hw] at R5
      have neA : ∀ a, Fp (L2.wipe σ vs) (wipeE en3 vs) a → a ≠ A := fun a f z => by subst z; exact nfp a (le4.fp f) hA
      have ne1 : ∀ a o, H1 a = some o → a ≠ A := fun a o q z => by subst z; rw [hA] at q; cases q
      refine ⟨acc, hD4, Nat.lt_of_le_of_lt hlen (Nat.lt_of_lt_of_le hlt hz), ⟨G4, en3, acc ++ [v4], ds ++ [y], zs', ?_, le4, ⟨kb4.ss, fun a o q n => by rw [upd_ne (ne1 a o q)]; exact kb4.fr a o q n, kb4.nw, fun a q => ?_⟩, upd_same, gD4, ?_, by simp, qr, ?_⟩⟩
      · refine R5.keep (.refl _) (fun b q z => ?_) (fun a f => (R5.fp_g f).1) fun a o f z => by rw [upd_ne (neA a f)]; exact z
        rw [upd_ne (fun z' => by subst z'; rw [gD4] at z; cases z)]
        exact R5.gh _ _ z
      · by_cases ha : a = A
        · subst ha; exact absurd hA q
        · rw [upd_ne ha]; exact kb4.up a q
      · exact (rA.mono ((k2.ss).trans (st3.keep.ss.trans st4.keep.ss))).append (.cons w4 .nil)
      · rw [List.length_append, List.length_singleton]; omega
  · have e : i = items.length := by omega
    subst e
    refine .inl ⟨w.stop H' (k'.ss.trans R'.gh), ?_⟩
    rw [List.drop_length] at hgo
    cases hgo
    rw [List.append_nil] at m
    obtain ⟨R6, le6⟩ := R1.back R' k' le'
    have kk : Keep G1 H1 (Fp σ env1) G' H' := k'.mono fun a f => let ⟨j, s, c, _, h2, h3, h4⟩ := f.wipe; ⟨j, s, c, h2, h3, h4⟩
    refine m (.ref A) G' H' (s1.trans ⟨R6, kk, le6⟩) ⟨⟨A, rfl, gD, acc, hD, rA⟩, fun a q => ?_⟩
    cases q
    cases q : H A with
    | none => rfl
    | some o => exact absurd hA (s1.keep.up A (by rw [q]; exact fun z => nomatch z))
theorem s_lc {elt iter : Expr} {ifs : List Expr} {scope : Scope} {own : List (Str × Nat)} {t : IT} {ei : En → Res En (List D)} {ec : En → Res En Bool} {ee : En → Res En R} (hc : X.calm = true) (hN : X.N.Nodup) (hi : PI X tg iter (tI (gm X cl) ei))
    (ok : BlkOk X.N X.env.scope scope own) (hg : ∀ (s : Shared) (H : Hp) (C : Addr) (cs : List (Str × Addr)) (fp : List Addr), PG (X.blk s H scope (compEnvC scope cs C X.env) fp) tg (tG (gm X cl) t))
    (ht : ∀ (s : Shared) (H : Hp) (C : Addr) (cs : List (Str × Addr)) (fp : List Addr), PTs (X.blk s H scope (compEnvC scope cs C X.env) fp) ifs (tT (gm X cl) ec))
    (he : ∀ (s : Shared) (H : Hp) (C : Addr) (cs : List (Str × Addr)) (fp : List Addr), PE (X.blk s H scope (compEnvC scope cs C X.env) fp) elt (tW (gm X cl) fun env => (ee env).frz))
    (hs : ∀ x, foldedSetIterable iter X.env x = pure x) (hv : ∀ j ∈ t.slots, j ∈ own.map (·.2)) :
    PE X (.ListComp elt [⟨tg, iter, ifs, 0⟩] scope pos) (tX (gm X cl) fun env => (ei env).bind fun items env1 => (lcGo t (own.map (·.2)) ec ee items env1).bind fun ys env2 => .ok (.own (.lst ys)) (backE env1 env2 (own.map (·.2)))) :=
  pe_imp (pe_sz (pe_lc hc hN hi ok hg ht he hs)) fun σ H Q z => lc_ev hv z
end
end Tk

set_option Elab.async false
set_option linter.all false
set_option maxRecDepth 100000
set_option maxHeartbeats 2000000
/-! Ir10: what a def promises; calls. -/
namespace Tk
open PySem PySem.Spec L2

/-- the things that came in by reference, as they are behind -/
def fill : List S → List C → List S
  | [], _ => []
  | .io _ :: r, c :: cs => .io c :: fill r cs
  | .io c :: r, [] => .io c :: fill r []
  | s :: r, cs => s :: fill r cs
def noOwn (l : List S) : Prop := ∀ c, S.own c ∉ l
/-- what is handed back -/
def RetR (Γ : Gm) (H0 G' H' : Hp) (v : V) : S → Prop
  | .d x => Rep Γ G' v x
  | .own c => Cel Γ G' H' v c ∧ ∀ a, v = .ref a → H0 a = none
  | .io _ => False
def ens (l : List S) : En := l.map some
def sls (l : List V) : L2.St := l.map some
/-- a def's promise: it gives what f gives -/
def spOf (Γ : Gm) (f : Fn) : Sp := fun vs H Q _ => ∃ (G : Hp) (args : List S), Rel Γ G H (sls vs) (ens args) ∧ noOwn args ∧ match f args with
  | .ok r outs => ∀ v G' H', Rel Γ G' H' (sls vs) (ens (fill args outs)) → RetR Γ H G' H' v r → Keep G H (Fp (sls vs) (ens args)) G' H' → Q v H'
  | _ => False

section
variable {X : Cx} {cl : Nat → Addr} {tg e : Expr} {pos : Pos}
inductive ARs (Γ : Gm) (G : Hp) (σ : L2.St) : List V → List Arg → Prop
  | nil : ARs Γ G σ [] []
  | d {v : V} {x : D} {vs : List V} {as : List Arg} : Rep Γ G v x → ARs Γ G σ vs as → ARs Γ G σ (v :: vs) (.d x :: as)
  | io {v : V} {i : Nat} {vs : List V} {as : List Arg} : σ[i]? = some (some v) → ARs Γ G σ vs as → ARs Γ G σ (v :: vs) (.io i :: as)
  | sn {v : V} {i : Nat} {vs : List V} {as : List Arg} : σ[i]? = some (some v) → ARs Γ G σ vs as → ARs Γ G σ (v :: vs) (.sn i :: as)
def AR (Γ : Gm) (G : Hp) (σ : L2.St) (v : V) : Arg → Prop
  | .d x => Rep Γ G v x
  | .io i => σ[i]? = some (some v)
  | .sn i => σ[i]? = some (some v)
theorem ARs.cons {Γ : Gm} {G : Hp} {σ : L2.St} {v : V} {a : Arg} {vs : List V} {as : List Arg} (h : AR Γ G σ v a) (t : ARs Γ G σ vs as) : ARs Γ G σ (v :: vs) (a :: as) := by
  cases a with
  | d x => exact .d h t
  | io i => exact .io h t
  | sn i => exact .sn h t
theorem ARs.get {Γ : Gm} {G : Hp} {σ : L2.St} : ∀ {vs : List V} {as : List Arg} {i : Nat} {a : Arg}, ARs Γ G σ vs as → as[i]? = some a → ∃ v, vs[i]? = some v ∧ AR Γ G σ v a
  | _, _, _, _, .nil, e => by simp at e
  | _, _, 0, _, .d h _, e => by simp at e; subst e; exact ⟨_, rfl, h⟩
  | _, _, 0, _, .io h _, e => by simp at e; subst e; exact ⟨_, rfl, h⟩
  | _, _, 0, _, .sn h _, e => by simp at e; subst e; exact ⟨_, rfl, h⟩
  | _, _, i + 1, _, .d _ t, e => by simpa using ARs.get (i := i) t (by simpa using e)
  | _, _, i + 1, _, .io _ t, e => by simpa using ARs.get (i := i) t (by simpa using e)
  | _, _, i + 1, _, .sn _ t, e => by simpa using ARs.get (i := i) t (by simpa using e)
theorem ARs.append {Γ : Gm} {G : Hp} {σ : L2.St} : ∀ {vs ws : List V} {as bs : List Arg}, ARs Γ G σ vs as → ARs Γ G σ ws bs → ARs Γ G σ (vs ++ ws) (as ++ bs)
  | _, _, _, _, .nil, h => h
  | _, _, _, _, .d a t, h => .d a (ARs.append t h)
  | _, _, _, _, .io a t, h => .io a (ARs.append t h)
  | _, _, _, _, .sn a t, h => .sn a (ARs.append t h)
theorem ARs.mono {Γ : Gm} {G G' : Hp} {σ : L2.St} (ss : Same G G') : ∀ {vs : List V} {as : List Arg}, ARs Γ G σ vs as → ARs Γ G' σ vs as
  | _, _, .nil => .nil
  | _, _, .d h t => .d (Rep.mono ss _ _ h) (ARs.mono ss t)
  | _, _, .io h t => .io h (ARs.mono ss t)
  | _, _, .sn h t => .sn h (ARs.mono ss t)
theorem ARs.length {Γ : Gm} {G : Hp} {σ : L2.St} : ∀ {vs : List V} {as : List Arg}, ARs Γ G σ vs as → vs.length = as.length
  | _, _, .nil => rfl
  | _, _, .d _ t => by simp [ARs.length t]
  | _, _, .io _ t => by simp [ARs.length t]
  | _, _, .sn _ t => by simp [ARs.length t]
theorem ARs.perm {Γ : Gm} {G : Hp} {σ : L2.St} {vs : List V} {as : List Arg} (h : ARs Γ G σ vs as) : ∀ {p : List Nat} {bs : List Arg}, permArgs as p = some bs → ∃ ws, permArgs vs p = some ws ∧ ARs Γ G σ ws bs
  | [], bs, e => by cases e; exact ⟨[], rfl, .nil⟩
  | i :: p, bs, e => by
    simp only [permArgs] at e ⊢
    cases q : as[i]? with
    | none => rw [q] at e; cases e
    | some a =>
      cases q2 : permArgs as p with
      | none => rw [q, q2] at e; cases e
      | some as' =>
        rw [q, q2] at e
        cases e
        obtain ⟨v, h1, h2⟩ := h.get q
        obtain ⟨ws, h3, h4⟩ := h.perm q2
        exact ⟨v :: ws, by rw [h1, h3], .cons h2 h4⟩
/-- an argument list's reading -/
def tAs (Γ : Gm) (ev : En → Res En (List Arg)) : TA := fun σ H Q => ∃ G env, Rel Γ G H σ env ∧ match ev env with
  | .ok as env' => ∀ vs G' H', Stp Γ σ G H env G' H' env' → ARs Γ G' σ vs as → Q vs H'
  | _ => False
theorem s_anil : PA X [] (tAs (gm X cl) fun env => .ok [] env) := pa_imp pa_nil fun σ H Q ⟨G, env, R0, m⟩ => m [] G H (.refl R0) .nil
theorem av_ev {ea : En → Res En W} {ees : En → Res En (List Arg)} {σ : L2.St} {H : Hp} {Q : List V → Hp → Prop}
    (z : tAs (gm X cl) (fun env => (ea env).bind fun x env1 => match x with
      | .d x => (ees env1).bind fun xs env2 => .ok (.d x :: xs) env2
      | .bor _ => .stuck) σ H Q) : tW (gm X cl) ea σ H fun v H1 => tAs (gm X cl) ees σ H1 fun vs H2 => Q (v :: vs) H2 := by
  obtain ⟨G, env, R0, m⟩ := z
  refine ⟨G, env, R0, ?_⟩
  dsimp only at m ⊢
  cases qa : ea env with
  | ok x env1 =>
    rw [qa, Res.bind_ok] at m
    intro v G1 H1 s1 w1 _
    refine ⟨G1, env1, s1.rel, ?_⟩
    cases x with
    | bor i => exact m.elim
    | d x =>
      dsimp only at m
      cases ql : ees env1 with
      | ok l env2 =>
        rw [ql, Res.bind_ok] at m
        exact fun vs G2 H2 s2 w2 => m (v :: vs) G2 H2 (s1.trans s2) (.d (Rep.mono s2.keep.ss _ _ w1) w2)
      | exc x s => rw [ql] at m; exact m.elim
      | stuck => rw [ql] at m; exact m.elim
  | exc x s => rw [qa] at m; exact m.elim
  | stuck => rw [qa] at m; exact m.elim
theorem s_av {a : Expr} {es : List Expr} {ea : En → Res En W} {ees : En → Res En (List Arg)} (ha : PE X a (tW (gm X cl) ea)) (hs : PA X es (tAs (gm X cl) ees)) (hst : starEach (a :: es) X.env = (false, eval a X.env) :: starEach es X.env) :
    PA X (a :: es) (tAs (gm X cl) fun env => (ea env).bind fun x env1 => match x with
      | .d x => (ees env1).bind fun xs env2 => .ok (.d x :: xs) env2
      | .bor _ => .stuck) := pa_imp (pa_cons ha hs hst) fun σ H Q z => av_ev z
/-- a slot's thing by reference, to be read -/
theorem ar_ev {i : Nat} {mk : Nat → Arg} (hmk : ∀ (Γ : Gm) (G : Hp) (σ : L2.St) (v : V), σ[i]? = some (some v) → AR Γ G σ v (mk i)) {ees : En → Res En (List Arg)} {σ : L2.St} {H : Hp} {Q : List V → Hp → Prop}
    (z : tAs (gm X cl) (fun env => if (cellAt env i).isSome then (ees env).bind fun xs env2 => .ok (mk i :: xs) env2 else .stuck) σ H Q) : tVar i σ H fun v H1 => tAs (gm X cl) ees σ H1 fun vs H2 => Q (v :: vs) H2 := by
  obtain ⟨G, env, R0, m⟩ := z
  dsimp only at m
  by_cases hc : (cellAt env i).isSome = true
  · rw [if_pos hc] at m
    unfold cellAt at hc
    cases q : env[i]? with
    | none => rw [q] at hc; cases hc
    | some o =>
      cases o with
      | none => rw [q] at hc; cases hc
      | some s =>
        obtain ⟨v, e1, r⟩ := R0.slot i s q
        refine ⟨v, e1, G, env, R0, ?_⟩
        cases ql : ees env with
        | ok l env2 =>
          rw [ql, Res.bind_ok] at m
          exact fun vs G2 H2 s2 w2 => m (v :: vs) G2 H2 s2 (.cons (hmk _ _ _ _ e1) w2)
        | exc x s => rw [ql] at m; exact m.elim
        | stuck => rw [ql] at m; exact m.elim
  · rw [if_neg hc] at m
    exact m.elim
theorem s_ar {i : Nat} {mk : Nat → Arg} (hmk : ∀ (Γ : Gm) (G : Hp) (σ : L2.St) (v : V), σ[i]? = some (some v) → AR Γ G σ v (mk i)) {a : Expr} {es : List Expr} {ees : En → Res En (List Arg)} (ha : PE X a (tVar i)) (hs : PA X es (tAs (gm X cl) ees)) (hst : starEach (a :: es) X.env = (false, eval a X.env) :: starEach es X.env) :
    PA X (a :: es) (tAs (gm X cl) fun env => if (cellAt env i).isSome then (ees env).bind fun xs env2 => .ok (mk i :: xs) env2 else .stuck) := pa_imp (pa_cons ha hs hst) fun σ H Q z => ar_ev hmk z
/-! keywords -/
theorem pk_imp {ks : List Keyword} {t t0 : TA} (h : PK X ks t0) (i : ∀ σ H Q, t σ H Q → t0 σ H Q) : PK X ks t := ⟨fun pos pins s σ H Q I z => h.run pos pins s σ H Q I (i σ H Q z)⟩
theorem s_knil : PK X [] (tAs (gm X cl) fun env => .ok [] env) := pk_imp pk_nil fun σ H Q ⟨G, env, R0, m⟩ => m [] G H (.refl R0) .nil
theorem s_kv {a : Expr} {nm : Option Str} {kp : Pos} {ks : List Keyword} {ea : En → Res En W} {ees : En → Res En (List Arg)} (ha : PE X a (tW (gm X cl) ea)) (hs : PK X ks (tAs (gm X cl) ees)) :
    PK X (⟨nm, a, kp⟩ :: ks) (tAs (gm X cl) fun env => (ea env).bind fun x env1 => match x with
      | .d x => (ees env1).bind fun xs env2 => .ok (.d x :: xs) env2
      | .bor _ => .stuck) := pk_imp (pk_cons ha hs) fun σ H Q z => av_ev z
theorem s_kr {i : Nat} {mk : Nat → Arg} (hmk : ∀ (Γ : Gm) (G : Hp) (σ : L2.St) (v : V), σ[i]? = some (some v) → AR Γ G σ v (mk i)) {a : Expr} {nm : Option Str} {kp : Pos} {ks : List Keyword} {ees : En → Res En (List Arg)} (ha : PE X a (tVar i)) (hs : PK X ks (tAs (gm X cl) ees)) :
    PK X (⟨nm, a, kp⟩ :: ks) (tAs (gm X cl) fun env => if (cellAt env i).isSome then (ees env).bind fun xs env2 => .ok (mk i :: xs) env2 else .stuck) := pk_imp (pk_cons ha hs) fun σ H Q z => ar_ev hmk z

/-! ### the call -/
theorem cellAt_some {env : En} {i : Nat} {c : C} (h : cellAt env i = some c) : ∃ s, env[i]? = some (some s) ∧ s.cell = some c := by
  unfold cellAt at h
  cases q : env[i]? with
  | none => rw [q] at h; cases h
  | some o =>
    cases o with
    | none => rw [q] at h; cases h
    | some s => rw [q] at h; exact ⟨s, rfl, h⟩
/-- the addresses that are lent to be read -/
def SnA (σ : L2.St) (as : List Arg) (a : Addr) : Prop := ∃ i, Arg.sn i ∈ as ∧ σ[i]? = some (some (.ref a))
open Classical in
/-- what is frozen for the callee -/
noncomputable def lent (G H : Hp) (σ : L2.St) (as : List Arg) : Hp := fun b => if SnA σ as b then H b else G b
open Classical in
theorem lent_same {G H : Hp} {σ : L2.St} {as : List Arg} (gh : Same G H) : Same G (lent G H σ as) ∧ Same (lent G H σ as) H := by
  constructor
  · intro b o e
    unfold lent
    by_cases h : SnA σ as b
    · rw [if_pos h]; exact gh b o e
    · rw [if_neg h]; exact e
  · intro b o e
    unfold lent at e
    by_cases h : SnA σ as b
    · rw [if_pos h] at e; exact e
    · rw [if_neg h] at e; exact gh b o e
theorem mem_refs_io {i : Nat} : ∀ {as : List Arg}, Arg.io i ∈ as → i ∈ refsOf as
  | .d x :: r, h => mem_refs_io (as := r) (by simpa using h)
  | .io j :: r, h => by
    rcases List.mem_cons.mp h with h | h
    · cases h; exact List.mem_cons_self
    · exact List.mem_cons_of_mem _ (mem_refs_io h)
  | .sn j :: r, h => List.mem_cons_of_mem _ (mem_refs_io (as := r) (by simpa using h))
theorem mem_refs_sn {i : Nat} : ∀ {as : List Arg}, Arg.sn i ∈ as → i ∈ refsOf as
  | .d x :: r, h => mem_refs_sn (as := r) (by simpa using h)
  | .sn j :: r, h => by
    rcases List.mem_cons.mp h with h | h
    · cases h; exact List.mem_cons_self
    · exact List.mem_cons_of_mem _ (mem_refs_sn h)
  | .io j :: r, h => List.mem_cons_of_mem _ (mem_refs_sn (as := r) (by simpa using h))
/-- an index lent in two ways -/
theorem io_not_sn {i : Nat} : ∀ {as : List Arg}, (refsOf as).Nodup → Arg.io i ∈ as → Arg.sn i ∈ as → False
  | .d x :: r, n, h1, h2 => io_not_sn (as := r) n (by simpa using h1) (by simpa using h2)
  | .io j :: r, n, h1, h2 => by
    have n : (j :: refsOf r).Nodup := n
    rw [List.nodup_cons] at n
    have h2' : Arg.sn i ∈ r := by simpa using h2
    rcases List.mem_cons.mp h1 with h | h
    · injection h with h; subst h; exact n.1 (mem_refs_sn h2')
    · exact io_not_sn n.2 h h2'
  | .sn j :: r, n, h1, h2 => by
    have n : (j :: refsOf r).Nodup := n
    rw [List.nodup_cons] at n
    have h1' : Arg.io i ∈ r := by simpa using h1
    rcases List.mem_cons.mp h2 with h | h
    · injection h with h; subst h; exact n.1 (mem_refs_io h1')
    · exact io_not_sn n.2 h1' h
/-- an index by reference stands once -/
theorem io_once {i : Nat} : ∀ {as : List Arg} {p q : Nat}, (refsOf as).Nodup → as[p]? = some (.io i) → as[q]? = some (.io i) → p = q
  | [], p, q, _, h, _ => by simp at h
  | a :: r, 0, 0, _, _, _ => rfl
  | a :: r, p + 1, q + 1, n, h1, h2 => by
    have n' : (refsOf r).Nodup := by
      cases a with
      | d x => exact n
      | io j => exact (List.nodup_cons.mp n).2
      | sn j => exact (List.nodup_cons.mp n).2
    have z := io_once (p := p) (q := q) n' (by simpa using h1) (by simpa using h2)
    omega
  | a :: r, 0, q + 1, n, h1, h2 => by
    have e : a = .io i := by simpa using h1
    subst e
    exact absurd (mem_refs_io (List.mem_of_getElem? (by simpa using h2))) (List.nodup_cons.mp n).1
  | a :: r, p + 1, 0, n, h1, h2 => by
    have e : a = .io i := by simpa using h2
    subst e
    exact absurd (mem_refs_io (List.mem_of_getElem? (by simpa using h1))) (List.nodup_cons.mp n).1
theorem argsS_get {env : En} : ∀ {as : List Arg} {ss : List S}, argsS env as = some ss → ss.length = as.length ∧ ∀ (j : Nat) (s : S), ss[j]? = some s → ∃ a, as[j]? = some a ∧ argS env a = some s
  | [], ss, h => by cases h; exact ⟨rfl, fun j s e => by simp at e⟩
  | a :: r, ss, h => by
    have h : (match argS env a, argsS env r with
      | some s, some ss => some (s :: ss)
      | _, _ => none) = some ss := h
    cases q1 : argS env a with
    | none => rw [q1] at h; cases h
    | some s =>
      cases q2 : argsS env r with
      | none => rw [q1, q2] at h; cases h
      | some ss' =>
        rw [q1, q2] at h
        cases h
        obtain ⟨l, g⟩ := argsS_get q2
        refine ⟨by simp [l], fun j s' e => ?_⟩
        cases j with
        | zero => simp at e; subst e; exact ⟨a, rfl, q1⟩
        | succ j => simpa using g j s' (by simpa using e)
/-- what the callee meets -/
theorem start_rel {Γ : Gm} {G H : Hp} {σ : L2.St} {env : En} {vs : List V} {as : List Arg} {ss : List S} (R0 : Rel Γ G H σ env) (h : ARs Γ G σ vs as) (e : argsS env as = some ss) (nd : (refsOf as).Nodup) :
    Rel Γ (lent G H σ as) H (sls vs) (ens ss) ∧ noOwn ss := by
  obtain ⟨hl, hg⟩ := argsS_get e
  obtain ⟨sm1, sm2⟩ := lent_same (σ := σ) (as := as) R0.gh
  have slot : ∀ (j : Nat) (s : S), ss[j]? = some s → ∃ a v, as[j]? = some a ∧ argS env a = some s ∧ vs[j]? = some v ∧ AR Γ G σ v a := fun j s hs => by
    obtain ⟨a, h1, h2⟩ := hg j s hs
    obtain ⟨v, h3, h4⟩ := h.get h1
    exact ⟨a, v, h1, h2, h3, h4⟩
  have cel : ∀ (j : Nat) (s : S) (c : C), ss[j]? = some s → s.cell = some c → ∃ i v, as[j]? = some (.io i) ∧ s = .io c ∧ cellAt env i = some c ∧ vs[j]? = some v ∧ σ[i]? = some (some v) := fun j s c hs hc => by
    obtain ⟨a, v, h1, h2, h3, h4⟩ := slot j s hs
    cases a with
    | d x => cases h2; cases hc
    | io i =>
      obtain ⟨c', e1, e2⟩ := Option.map_eq_some_iff.mp (show (cellAt env i).map S.io = some s from h2)
      subst e2
      cases hc
      exact ⟨i, v, h1, rfl, e1, h3, h4⟩
    | sn i =>
      obtain ⟨c', e1, e2⟩ := Option.map_eq_some_iff.mp (show (cellAt env i).map (fun c => S.d c.toD) = some s from h2)
      subst e2
      cases hc
  have un : ∀ (j : Nat) (s : S), (ens ss)[j]? = some (some s) → ss[j]? = some s := fun j s hs => by
    unfold ens at hs
    rw [List.getElem?_map] at hs
    cases q : ss[j]? with
    | none => rw [q] at hs; cases hs
    | some s' => rw [q] at hs; cases hs; rfl
  have gv : ∀ (j : Nat) (v : V), vs[j]? = some v → (sls vs)[j]? = some (some v) := fun j v hv => by
    unfold sls
    rw [List.getElem?_map, hv]
    rfl
  refine ⟨⟨by unfold sls ens; rw [List.length_map, List.length_map, h.length, hl], sm2, fun j s hs => ?_, fun j k s s' c c' h1 h2 h3 h4 h5 => ?_⟩, fun c hm => ?_⟩
  · have hs := un j s hs
    obtain ⟨a, v, h1, h2, h3, h4⟩ := slot j s hs
    refine ⟨v, gv j v h3, ?_⟩
    cases a with
    | d x => cases h2; exact Rep.mono sm1 _ _ h4
    | io i =>
      obtain ⟨c, e1, e2⟩ := Option.map_eq_some_iff.mp (show (cellAt env i).map S.io = some s from h2)
      subst e2
      obtain ⟨s', e3, e4⟩ := cellAt_some e1
      obtain ⟨v', e5, cr⟩ := R0.own e3 e4
      have h4 : σ[i]? = some (some v) := h4
      rw [h4] at e5
      cases e5
      obtain ⟨a, rfl, g, _⟩ := id cr
      refine Cel.keep cr sm1 (fun b hb => ?_) fun b o _ z => z
      cases hb
      unfold lent
      rw [if_neg, g]
      rintro ⟨k, hk, hk2⟩
      have hik : i = k := by
        obtain ⟨m, hm⟩ := List.getElem?_of_mem hk
        obtain ⟨w, hw, hw2⟩ := h.get hm
        -- slot k holds the same object
        have key : ∃ s2 c2, env[k]? = some (some s2) ∧ s2.cell = some c2 := by
          have hlt : m < ss.length := by rw [hl]; exact (List.getElem?_eq_some_iff.mp hm).1
          obtain ⟨a2, b1, b2⟩ := hg m ss[m] (List.getElem?_eq_getElem hlt)
          rw [hm] at b1
          cases b1
          obtain ⟨c2, b3, _⟩ := Option.map_eq_some_iff.mp (show (cellAt env k).map (fun c => S.d c.toD) = some ss[m] from b2)
          obtain ⟨s2, b4, b5⟩ := cellAt_some b3
          exact ⟨s2, c2, b4, b5⟩
        obtain ⟨s2, c2, k1, k2⟩ := key
        exact R0.sep i k s' s2 c c2 e3 e4 k1 k2 (h4.trans hk2.symm)
      subst hik
      exact io_not_sn nd (List.mem_of_getElem? h1) hk
    | sn i =>
      obtain ⟨c, e1, e2⟩ := Option.map_eq_some_iff.mp (show (cellAt env i).map (fun c => S.d c.toD) = some s from h2)
      subst e2
      obtain ⟨s', e3, e4⟩ := cellAt_some e1
      obtain ⟨v', e5, cr⟩ := R0.own e3 e4
      have h4 : σ[i]? = some (some v) := h4
      rw [h4] at e5
      cases e5
      obtain ⟨a, rfl, g, hc⟩ := id cr
      have la : lent G H σ as a = H a := by
        unfold lent
        rw [if_pos ⟨i, List.mem_of_getElem? h1, h4⟩]
      show Rep Γ (lent G H σ as) (.ref a) c.toD
      cases c with
      | lst l =>
        obtain ⟨xs, z, r⟩ := hc
        exact .lst (la.trans z) (r.mono sm1)
      | dct l =>
        obtain ⟨es, ep, ks, vs', z, k0, k1, k2, r1, r2⟩ := hc
        exact .dct (la.trans z) k0 k1 k2 (r1.mono sm1) (r2.mono sm1)
  · obtain ⟨i, v, a1, _, a3, a4, a5⟩ := cel j s c (un j s h1) h2
    obtain ⟨i', v', b1, _, b3, b4, b5⟩ := cel k s' c' (un k s' h3) h4
    rw [gv j v a4, gv k v' b4] at h5
    cases h5
    obtain ⟨s1, c1, c2⟩ := cellAt_some a3
    obtain ⟨s2, d1, d2⟩ := cellAt_some b3
    have := R0.sep i i' s1 s2 _ _ c1 c2 d1 d2 (a5.trans b5.symm)
    subst this
    exact io_once nd a1 b1
  · obtain ⟨j, hj⟩ := List.getElem?_of_mem hm
    obtain ⟨i, v, _, e2, _⟩ := cel j (.own c) c hj rfl
    cases e2
end
end Tk

set_option Elab.async false
set_option linter.all false
set_option maxRecDepth 100000
set_option maxHeartbeats 2000000
/-! Ir11: calls, behind them. -/
namespace Tk
open PySem PySem.Spec L2

theorem putCell_len {env : En} {i : Nat} {c : C} : (putCell env i c).length = env.length := by
  unfold putCell
  split <;> simp
theorem putCell_ne {env : En} {i j : Nat} {c : C} (h : j ≠ i) : (putCell env i c)[j]? = env[j]? := by
  unfold putCell
  split
  · rw [List.getElem?_set_ne (Ne.symm h)]
  · rw [List.getElem?_set_ne (Ne.symm h)]
  · rfl
/-- the slot whose thing changes -/
theorem putCell_at {env : En} {i : Nat} {c c0 : C} {s : S} (h : env[i]? = some (some s)) (hc : s.cell = some c0) : ∃ s', (putCell env i c)[i]? = some (some s') ∧ s'.cell = some c ∧ (∀ d, s = .io d → s' = .io c) ∧ ∀ d, s' = .io d → ∃ d0, s = .io d0 := by
  have hl : i < env.length := (List.getElem?_eq_some_iff.mp h).1
  cases s with
  | d x => cases hc
  | own c' => exact ⟨.own c, by unfold putCell; rw [h]; simp [hl], rfl, (fun _ e => nomatch e), fun _ e => nomatch e⟩
  | io c' => exact ⟨.io c, by unfold putCell; rw [h]; simp [hl], rfl, fun _ _ => rfl, fun _ _ => ⟨_, rfl⟩⟩
theorem putCell_le {env : En} {i : Nat} {c c0 : C} {s : S} (h : env[i]? = some (some s)) (hc : s.cell = some c0) : Le env (putCell env i c) := by
  obtain ⟨s', h1, h2, h3, h4⟩ := putCell_at (c := c) h hc
  refine ⟨putCell_len, fun j s1 c1 e e1 => ?_, fun j c1 e => ?_, fun j c1 e => ?_⟩
  · by_cases hj : j = i
    · subst hj; exact ⟨s, c0, h, hc⟩
    · rw [putCell_ne hj] at e; exact ⟨s1, c1, e, e1⟩
  · by_cases hj : j = i
    · subst hj
      rw [h] at e
      injection e with e; injection e with e
      exact ⟨c, by rw [h1, h3 _ e]⟩
    · exact ⟨c1, by rw [putCell_ne hj]; exact e⟩
  · by_cases hj : j = i
    · subst hj
      rw [h1] at e
      injection e with e; injection e with e
      obtain ⟨d0, q⟩ := h4 _ e
      exact ⟨d0, by rw [h, q]⟩
    · rw [putCell_ne hj] at e; exact ⟨c1, e⟩
theorem putBack_spec : ∀ {is : List Nat} {cs : List C} {env env' : En}, putBack env is cs = some env' → is.Nodup → (∀ i ∈ is, ∃ s c, env[i]? = some (some s) ∧ s.cell = some c) →
    is.length = cs.length ∧ (∀ i, i ∉ is → env'[i]? = env[i]?) ∧ (∀ (k i : Nat) (c : C), is[k]? = some i → cs[k]? = some c → env'[i]? = (putCell env i c)[i]?) ∧ Le env env'
  | [], [], env, env', e, _, _ => by
    cases e
    exact ⟨rfl, fun _ _ => rfl, fun k i c h _ => by simp at h, .refl _⟩
  | [], _ :: _, env, env', e, _, _ => by cases e
  | _ :: _, [], env, env', e, _, _ => by cases e
  | i :: is, c :: cs, env, env', e, nd, hs => by
    have e : putBack (putCell env i c) is cs = some env' := e
    obtain ⟨nm, nd'⟩ := List.nodup_cons.mp nd
    have ne : ∀ j ∈ is, j ≠ i := fun j hj z => nm (z ▸ hj)
    obtain ⟨s, c0, h1, h2⟩ := hs i List.mem_cons_self
    obtain ⟨a1, a2, a3, a4⟩ := putBack_spec e nd' fun j hj => by
      obtain ⟨s, c, h1, h2⟩ := hs j (List.mem_cons_of_mem _ hj)
      exact ⟨s, c, by rw [putCell_ne (ne j hj)]; exact h1, h2⟩
    refine ⟨by simp [a1], fun j hj => ?_, fun k j c' hk hc => ?_, (putCell_le h1 h2).trans a4⟩
    · have hj2 : j ∉ is ∧ j ≠ i := ⟨fun z => hj (List.mem_cons_of_mem _ z), fun z => hj (by rw [z]; exact List.mem_cons_self)⟩
      rw [a2 j hj2.1, putCell_ne hj2.2]
    · cases k with
      | zero =>
        have hk : i = j := by simpa using hk
        have hc : c = c' := by simpa using hc
        subst hk; subst hc
        exact a2 i nm
      | succ k =>
        have hk : is[k]? = some j := by simpa using hk
        have hc : cs[k]? = some c' := by simpa using hc
        rw [a3 k j c' hk hc]
        have nej := ne j (List.mem_of_getElem? hk)
        unfold putCell
        have : (putCell env i c)[j]? = env[j]? := putCell_ne nej
        unfold putCell at this
        obtain ⟨s', c1, h3, h4⟩ := hs j (List.mem_cons_of_mem _ (List.mem_of_getElem? hk))
        rw [this, h3]
        have hl : j < env.length := (List.getElem?_eq_some_iff.mp h3).1
        have hl2 : j < (putCell env i c).length := by rw [putCell_len]; exact hl
        unfold putCell at hl2
        cases s' with
        | d x => cases h4
        | own c2 => dsimp only; rw [List.getElem?_set_self hl2, List.getElem?_set_self hl]
        | io c2 => dsimp only; rw [List.getElem?_set_self hl2, List.getElem?_set_self hl]
theorem mem_ios {i : Nat} : ∀ {as : List Arg}, i ∈ iosOf as ↔ Arg.io i ∈ as
  | [] => by simp [iosOf]
  | .d x :: r => by simpa [iosOf] using mem_ios (as := r)
  | .sn j :: r => by simpa [iosOf] using mem_ios (as := r)
  | .io j :: r => by simp [iosOf, mem_ios (as := r)]
theorem ios_nodup : ∀ {as : List Arg}, (refsOf as).Nodup → (iosOf as).Nodup
  | [], _ => .nil
  | .d x :: r, h => ios_nodup (as := r) h
  | .sn j :: r, h => ios_nodup (as := r) (List.nodup_cons.mp h).2
  | .io j :: r, h => List.nodup_cons.mpr ⟨fun z => (List.nodup_cons.mp h).1 (mem_refs_io (mem_ios.mp z)), ios_nodup (as := r) (List.nodup_cons.mp h).2⟩
theorem fill_get {env : En} : ∀ {as : List Arg} {ss : List S} {outs : List C} {k i : Nat} {c : C}, argsS env as = some ss → (iosOf as)[k]? = some i → outs[k]? = some c → ∃ p : Nat, as[p]? = some (Arg.io i) ∧ (fill ss outs)[p]? = some (S.io c)
  | [], ss, outs, k, i, c, _, h, _ => by simp [iosOf] at h
  | a :: r, ss, outs, k, i, c, e, hk, hc => by
    simp only [argsS] at e
    cases q1 : argS env a with
    | none => rw [q1] at e; cases e
    | some s =>
      cases q2 : argsS env r with
      | none => rw [q1, q2] at e; cases e
      | some ss' =>
        rw [q1, q2] at e
        cases e
        cases a with
        | d x =>
          cases q1
          obtain ⟨p, h1, h2⟩ := fill_get (as := r) q2 hk hc
          exact ⟨p + 1, by simpa using h1, by simpa [fill] using h2⟩
        | sn j =>
          obtain ⟨c', _, rfl⟩ := Option.map_eq_some_iff.mp (show (cellAt env j).map (fun c => S.d c.toD) = some s from q1)
          obtain ⟨p, h1, h2⟩ := fill_get (as := r) q2 hk hc
          exact ⟨p + 1, by simpa using h1, by simpa [fill] using h2⟩
        | io j =>
          obtain ⟨c', _, rfl⟩ := Option.map_eq_some_iff.mp (show (cellAt env j).map S.io = some s from q1)
          cases outs with
          | nil => simp at hc
          | cons c1 cs =>
            cases k with
            | zero =>
              have hk : j = i := by simpa [iosOf] using hk
              have hc : c1 = c := by simpa using hc
              subst hk; subst hc
              exact ⟨0, rfl, rfl⟩
            | succ k =>
              obtain ⟨p, h1, h2⟩ := fill_get (as := r) (outs := cs) (k := k) q2 (by simpa [iosOf] using hk) (by simpa using hc)
              exact ⟨p + 1, by simpa using h1, by simpa [fill] using h2⟩
/-! values that need no heap -/
theorem scalar_rep {Γ : Gm} {G G' : Hp} {v : V} {x : D} (h : isScalar x = true) (r : Rep Γ G v x) : Rep Γ G' v x := by
  cases r with
  | non => exact .non
  | bl b => exact .bl b
  | int i => exact .int i
  | str s => exact .str s
  | _ => cases h
theorem scalars_rep {Γ : Gm} {G G' : Hp} : ∀ {vs : List V} {l : List D}, l.all isScalar = true → RepAll Γ G vs l → RepAll Γ G' vs l
  | _, _, _, .nil => .nil
  | _, _, h, .cons a t => by
    rw [List.all_cons, Bool.and_eq_true] at h
    exact .cons (scalar_rep h.1 a) (scalars_rep h.2 t)
theorem noSn {σ : L2.St} {a : Addr} : ∀ {as : List Arg}, hasSn as = false → ¬ SnA σ as a := by
  intro as h ⟨i, hm, _⟩
  induction as with
  | nil => simp at hm
  | cons x r ih =>
    cases x with
    | d x => exact ih h (by simpa using hm)
    | io j => exact ih h (by simpa using hm)
    | sn j => cases h

open Classical in
/-- what the caller holds frozen behind the call -/
noncomputable def unlent (G' : Hp) (σ : L2.St) (as : List Arg) : Hp := fun b => if SnA σ as b then none else G' b
section
variable {Γ : Gm} {G H : Hp} {σ : L2.St} {env : En} {vs : List V} {as : List Arg} {ss : List S}
theorem unlent_id {G' : Hp} (h : hasSn as = false) : unlent G' σ as = G' := by
  funext b
  unfold unlent
  rw [if_neg (noSn h)]
theorem sn_free (R0 : Rel Γ G H σ env) (e : argsS env as = some ss) {a : Addr} (h : SnA σ as a) : G a = none := by
  obtain ⟨i, hm, hs⟩ := h
  obtain ⟨hl, hg⟩ := argsS_get e
  obtain ⟨p, hp⟩ := List.getElem?_of_mem hm
  have hlt : p < ss.length := by rw [hl]; exact (List.getElem?_eq_some_iff.mp hp).1
  obtain ⟨a2, b1, b2⟩ := hg p ss[p] (List.getElem?_eq_getElem hlt)
  rw [hp] at b1
  cases b1
  obtain ⟨c2, b3, _⟩ := Option.map_eq_some_iff.mp (show (cellAt env i).map (fun c => S.d c.toD) = some ss[p] from b2)
  obtain ⟨s2, b4, b5⟩ := cellAt_some b3
  exact (R0.fp_g ⟨i, s2, c2, b4, b5, hs⟩).1
theorem fp_args (R0 : Rel Γ G H σ env) (ha : ARs Γ G σ vs as) (e : argsS env as = some ss) {a : Addr} (h : Fp (sls vs) (ens ss) a) : ∃ i s c, Arg.io i ∈ as ∧ env[i]? = some (some s) ∧ s.cell = some c ∧ σ[i]? = some (some (.ref a)) := by
  obtain ⟨hl, hg⟩ := argsS_get e
  obtain ⟨p, s, c, h1, h2, h3⟩ := h
  have h1' : ss[p]? = some s := by
    unfold ens at h1
    rw [List.getElem?_map] at h1
    cases q : ss[p]? with
    | none => rw [q] at h1; cases h1
    | some s' => rw [q] at h1; cases h1; rfl
  have h3' : vs[p]? = some (.ref a) := by
    unfold sls at h3
    rw [List.getElem?_map] at h3
    cases q : vs[p]? with
    | none => rw [q] at h3; cases h3
    | some s' => rw [q] at h3; cases h3; rfl
  obtain ⟨b, b1, b2⟩ := hg p s h1'
  obtain ⟨v, b3, b4⟩ := ha.get b1
  rw [h3'] at b3
  cases b3
  cases b with
  | d x => cases b2; cases h2
  | sn i =>
    obtain ⟨c', _, rfl⟩ := Option.map_eq_some_iff.mp (show (cellAt env i).map (fun c => S.d c.toD) = some s from b2)
    cases h2
  | io i =>
    obtain ⟨c', e1, rfl⟩ := Option.map_eq_some_iff.mp (show (cellAt env i).map S.io = some s from b2)
    obtain ⟨s', e3, e4⟩ := cellAt_some e1
    exact ⟨i, s', c', List.mem_of_getElem? b1, e3, e4, b4⟩
theorem back_stp (R0 : Rel Γ G H σ env) (ha : ARs Γ G σ vs as) (e : argsS env as = some ss) (nd : (refsOf as).Nodup) {outs : List C} {env' : En} (hp : putBack env (iosOf as) outs = some env') {G' H' : Hp}
    (R' : Rel Γ G' H' (sls vs) (ens (fill ss outs))) (k : Keep (lent G H σ as) H (Fp (sls vs) (ens ss)) G' H') (hsc : hasSn as = true → outs.all cScalar = true) : Stp Γ σ G H env (unlent G' σ as) H' env' := by
  obtain ⟨hl, hg⟩ := argsS_get e
  obtain ⟨sm1, sm2⟩ := lent_same (σ := σ) (as := as) R0.gh
  have ioAt : ∀ i ∈ iosOf as, ∃ p s c, as[p]? = some (Arg.io i) ∧ env[i]? = some (some s) ∧ s.cell = some c := fun i hi => by
    obtain ⟨p, hp⟩ := List.getElem?_of_mem (mem_ios.mp hi)
    have hlt : p < ss.length := by rw [hl]; exact (List.getElem?_eq_some_iff.mp hp).1
    obtain ⟨a2, b1, b2⟩ := hg p ss[p] (List.getElem?_eq_getElem hlt)
    rw [hp] at b1
    cases b1
    obtain ⟨c2, b3, _⟩ := Option.map_eq_some_iff.mp (show (cellAt env i).map S.io = some ss[p] from b2)
    obtain ⟨s2, b4, b5⟩ := cellAt_some b3
    exact ⟨p, s2, c2, hp, b4, b5⟩
  obtain ⟨p1, p2, p3, le⟩ := putBack_spec hp (ios_nodup nd) fun i hi => let ⟨_, s, c, _, h2, h3⟩ := ioAt i hi; ⟨s, c, h2, h3⟩
  have ssG : Same G (unlent G' σ as) := fun b o hb => by
    unfold unlent
    rw [if_neg fun z => by rw [sn_free R0 e z] at hb; cases hb]
    exact k.ss b o (sm1 b o hb)
  have ghG : Same (unlent G' σ as) H' := fun b o hb => by
    unfold unlent at hb
    by_cases z : SnA σ as b
    · rw [if_pos z] at hb; cases hb
    · rw [if_neg z] at hb; exact R'.gh b o hb
  have nwG : ∀ b, unlent G' σ as b ≠ none → G b ≠ none ∨ H b = none ∨ ∃ i s c, Arg.io i ∈ as ∧ env[i]? = some (some s) ∧ s.cell = some c ∧ σ[i]? = some (some (.ref b)) := fun b hb => by
    unfold unlent at hb
    by_cases z : SnA σ as b
    · rw [if_pos z] at hb; exact absurd rfl hb
    · rw [if_neg z] at hb
      rcases k.nw b hb with q | q | q
      · unfold lent at q
        rw [if_neg z] at q
        exact .inl q
      · exact .inr (.inl q)
      · exact .inr (.inr (fp_args R0 ha e q))
  refine ⟨⟨by rw [le.len]; exact R0.len, ghG, fun i s hs => ?_, fun i j s s' c c' h1 h2 h3 h4 h5 => ?_⟩, ⟨ssG, fun a o h1 h2 => ?_, fun a h => ?_, k.up⟩, le⟩
  · by_cases hi : i ∈ iosOf as
    · obtain ⟨q, hq⟩ := List.getElem?_of_mem hi
      have hq2 : q < outs.length := by rw [← p1]; exact (List.getElem?_eq_some_iff.mp hq).1
      obtain ⟨pp, s0, c0, g1, g2, g3⟩ := ioAt i hi
      have hc := List.getElem?_eq_getElem hq2
      have h9 := p3 q i outs[q] hq hc
      obtain ⟨s', f1, f2, _⟩ := putCell_at (c := outs[q]) g2 g3
      rw [h9, f1] at hs
      injection hs with hs; injection hs with hs
      subst hs
      obtain ⟨p, r1, r2⟩ := fill_get e hq hc
      obtain ⟨v, r3, r4⟩ := ha.get r1
      obtain ⟨v', r5, r6⟩ := R'.slot p (.io outs[q]) (by unfold ens; rw [List.getElem?_map, r2]; rfl)
      have r7 : (sls vs)[p]? = some (some v) := by unfold sls; rw [List.getElem?_map, r3]; rfl
      rw [r7] at r5
      cases r5
      refine ⟨v, r4, ?_⟩
      have cel : Cel Γ (unlent G' σ as) H' v outs[q] := by
        cases hsn : hasSn as with
        | false => rw [unlent_id hsn]; exact r6
        | true =>
          have hall := hsc hsn
          rw [List.all_eq_true] at hall
          have hx := hall outs[q] (List.getElem_mem hq2)
          generalize outs[q] = c at r6 hx
          obtain ⟨a, rfl, g, hc⟩ := (show Cel Γ G' H' v c from r6)
          refine ⟨a, rfl, by unfold unlent; by_cases z : SnA σ as a; · rw [if_pos z]
                             · rw [if_neg z]; exact g, ?_⟩
          cases c with
          | dct l => cases hx
          | lst l => obtain ⟨xs, e1, e2⟩ := hc; exact ⟨xs, e1, scalars_rep hx e2⟩
      cases s' with
      | d x => cases f2
      | own c => cases f2; exact cel
      | io c => cases f2; exact cel
    · rw [p2 i hi] at hs
      obtain ⟨v, h1, h2⟩ := R0.slot i s hs
      refine ⟨v, h1, ?_⟩
      have nio : ∀ a c, s.cell = some c → v = .ref a → ¬ Fp (sls vs) (ens ss) a := fun a c hc hv z => by
        obtain ⟨j, s2, c2, z1, z2, z3, z4⟩ := fp_args R0 ha e z
        have := R0.sep i j s s2 c c2 hs hc z2 z3 (by rw [h1, hv, z4])
        subst this
        exact hi (mem_ios.mpr z1)
      refine h2.keep ssG (fun a c hc hv => ?_) fun a o c hc hv hh => k.fr a o hh (nio a c hc hv)
      subst hv
      have fp := R0.fp_g ⟨i, s, c, hs, hc, h1⟩
      cases z : unlent G' σ as a with
      | none => rfl
      | some o =>
        rcases nwG a (by rw [z]; exact fun w => nomatch w) with q | q | ⟨j, s2, c2, q1, q2, q3, q4⟩
        · exact absurd fp.1 q
        · exact absurd q fp.2
        · have := R0.sep i j s s2 c c2 hs hc q2 q3 (by rw [h1, q4])
          subst this
          exact absurd (mem_ios.mpr q1) hi
  · obtain ⟨s0, c0, g1, g2⟩ := le.own i s c h1 h2
    obtain ⟨s1, c1, g3, g4⟩ := le.own j s' c' h3 h4
    exact R0.sep i j s0 s1 c0 c1 g1 g2 g3 g4 h5
  · refine k.fr a o h1 fun z => h2 ?_
    obtain ⟨i, s, c, _, z1, z2, z3⟩ := fp_args R0 ha e z
    exact ⟨i, s, c, z1, z2, z3⟩
  · rcases nwG a h with q | q | ⟨i, s, c, _, q1, q2, q3⟩
    · exact .inl q
    · exact .inr (.inl q)
    · exact .inr (.inr ⟨i, s, c, q1, q2, q3⟩)
theorem call_ev {f : Fn} {H : Hp} {Q : V → Hp → Prop} {E : XK} (R0 : Rel Γ G H σ env) (ha : ARs Γ G σ vs as) (m : match callR f as env with
    | .ok r env' => ∀ v G' H', Stp Γ σ G H env G' H' env' → RR Γ H G' H' σ v r → Q v H'
    | _ => False) : spOf Γ f vs H Q E := by
  unfold callR at m
  cases q1 : argsS env as with
  | none => rw [q1] at m; exact m.elim
  | some ss =>
    rw [q1] at m
    dsimp only at m
    by_cases nd : (refsOf as).Nodup
    · rw [if_pos nd] at m
      obtain ⟨r1, r2⟩ := start_rel R0 ha q1 nd
      refine ⟨_, ss, r1, r2, ?_⟩
      cases q2 : f ss with
      | stuck => rw [q2] at m; exact m.elim
      | exc x o =>
        exfalso
        rw [q2] at m
        revert m
        dsimp only [callE]
        cases q3 : putBack env (iosOf as) o with
        | none => exact id
        | some env' =>
          dsimp only
          split <;> rename_i heq
          · split at heq <;> cases heq
          · exact id
      | ok r outs =>
        intro v G' H' R' rr k
        rw [q2] at m
        revert m
        cases r with
        | io c => exact fun m => m.elim
        | d x =>
          dsimp only [callE]
          cases q3 : putBack env (iosOf as) outs with
          | none => exact fun m => m.elim
          | some env' =>
            dsimp only
            cases hsn : hasSn as with
            | false =>
              rw [if_neg (fun z => nomatch z)]
              exact fun m => m v _ H' (back_stp R0 ha q1 nd q3 R' k fun z => by rw [hsn] at z; cases z) (by rw [unlent_id hsn]; exact rr)
            | true =>
              rw [if_pos rfl]
              by_cases hs : (isScalar x && outs.all cScalar) = true
              · rw [if_pos hs]
                rw [Bool.and_eq_true] at hs
                exact fun m => m v _ H' (back_stp R0 ha q1 nd q3 R' k fun _ => hs.2) (scalar_rep hs.1 rr)
              · rw [if_neg hs]
                exact fun m => m.elim
        | own c =>
          dsimp only [callE]
          cases q3 : putBack env (iosOf as) outs with
          | none => exact fun m => m.elim
          | some env' =>
            dsimp only
            cases hsn : hasSn as with
            | false =>
              rw [if_neg (fun z => nomatch z)]
              exact fun m => m v _ H' (back_stp R0 ha q1 nd q3 R' k fun z => by rw [hsn] at z; cases z) (by rw [unlent_id hsn]; exact rr)
            | true =>
              rw [if_pos rfl]
              exact fun m => m.elim
    · rw [if_neg nd] at m
      exact m.elim
end
end Tk

set_option Elab.async false
set_option linter.all false
set_option maxRecDepth 100000
set_option maxHeartbeats 2000000
/-! Ir12: calls by name. -/
namespace Tk
open PySem PySem.Spec L2

def CX0 : CXT := fun _ _ _ _ _ _ => False
def EE : XK := fun _ _ _ => False
theorem passes0 {X : Cx} {E : XK} : Passes CX0 X E := fun _ _ _ _ _ _ _ h => h.elim

theorem ARs.permA {Γ : Gm} {G : Hp} {σ : L2.St} {vs : List V} {as : List Arg} (h : ARs Γ G σ vs as) {p : List Nat} {bs : List Arg} (e : Tk.permA as p = some bs) : ∃ ws, Tk.permA vs p = some ws ∧ ARs Γ G σ ws bs := by
  unfold Tk.permA at e ⊢
  cases hp : p.isEmpty with
  | true => rw [hp] at e; rw [if_pos rfl] at e ⊢; cases e; exact ⟨_, rfl, h⟩
  | false => rw [hp] at e; rw [if_neg (fun z => nomatch z)] at e ⊢; exact h.perm e
mutual
def IAs.len : IAs → Nat
  | .nil => 0
  | .v _ r => r.len + 1
  | .io _ r => r.len + 1
  | .sn _ r => r.len + 1
end
theorem evAs_len {F : FE} : ∀ (as : IAs) (env env' : En) (xs : List Arg), evAs F as env = .ok xs env' → xs.length = as.len
  | .nil, env, env', xs, h => by simp only [evAs] at h; cases h; rfl
  | .v e r, env, env', xs, h => by
    simp only [evAs] at h
    cases q : (evE F e env).frz with
    | stuck => rw [q] at h; cases h
    | exc x s => rw [q] at h; cases h
    | ok x env1 =>
      rw [q, Res.bind_ok] at h
      cases x with
      | bor i => cases h
      | d x =>
        dsimp only at h
        cases q2 : evAs F r env1 with
        | stuck => rw [q2] at h; cases h
        | exc x s => rw [q2] at h; cases h
        | ok ys env2 => rw [q2, Res.bind_ok] at h; cases h; simp [IAs.len, evAs_len r _ _ _ q2]
  | .io i r, env, env', xs, h => by
    simp only [evAs] at h
    split at h
    · cases q2 : evAs F r env with
      | stuck => rw [q2] at h; cases h
      | exc x s => rw [q2] at h; cases h
      | ok ys env2 => rw [q2, Res.bind_ok] at h; cases h; simp [IAs.len, evAs_len r _ _ _ q2]
    · cases h
  | .sn i r, env, env', xs, h => by
    simp only [evAs] at h
    split at h
    · cases q2 : evAs F r env with
      | stuck => rw [q2] at h; cases h
      | exc x s => rw [q2] at h; cases h
      | ok ys env2 => rw [q2, Res.bind_ok] at h; cases h; simp [IAs.len, evAs_len r _ _ _ q2]
    · cases h

section
variable {X : Cx} {cl : Nat → Addr} {k : Nat} {f : Addr} {fd : FuncData} {ps : List Str} {F : Fn} {x : Str} {p pos : Pos} {e : Expr} {es : List Expr}
theorem callR_ev {ees : En → Res En (List Arg)} {σ : L2.St} {H : Hp} {Q : VK} {E : XK}
    (z : tX (gm X cl) (fun env => (ees env).bind fun xs env1 => callR F xs env1) σ H Q) :
    tAs (gm X cl) ees σ H fun vs H1 => spOf (gm X cl) F vs H1 (fun v H' => Sz X.K H' → Q v H') E := by
  obtain ⟨G, env, R0, m⟩ := z
  refine ⟨G, env, R0, ?_⟩
  dsimp only at m ⊢
  cases qa : ees env with
  | stuck => rw [qa] at m; exact m.elim
  | exc x s => rw [qa] at m; exact m.elim
  | ok as env1 =>
    rw [qa, Res.bind_ok] at m
    intro vs G1 H1 s1 ar
    refine call_ev s1.rel ar ?_
    cases qc : callR F as env1 with
    | stuck => rw [qc] at m; exact m.elim
    | exc x s => rw [qc] at m; exact m.elim
    | ok r env2 =>
      rw [qc] at m
      exact fun v G' H' s2 rr sz => m v G' H' (s1.trans s2) (rr.back s1.keep.up) sz
theorem s_call (Fk : FnOk X.prog X.w X.K X.mg X.base CX0 k f fd ps (spOf (gm X cl) F)) (hr : Room k X.A) (hg : Gl X x) (hm : X.mg x = some (.ref f)) (hk : PySem.W.keepIn X.K (.ref f) = true) (hb : Binds X.K fd ps [])
    {ees : En → Res En (List Arg)} (ha : PA X (e :: es) (tAs (gm X cl) ees)) (hdb : (x == ("__debug__" : Str)) = false) (he : starEach (e :: es) X.env = (false, eval e X.env) :: starEach es X.env) (hpl : (backTo pos (starEach es X.env)).any (·.1) = false) :
    PE X (.Call (.Name x p) (e :: es) [] pos) (tX (gm X cl) fun env => (ees env).bind fun xs env1 => callR F xs env1) := by
  refine pe_imp (pe_sz (pe_call Fk hr hg hm hk hb .nil (passes0 (E := EE)) ha hdb he hpl)) fun σ H Q z => ?_
  obtain ⟨G, env, R0, m⟩ := callR_ev (E := EE) z
  refine ⟨G, env, R0, ?_⟩
  cases qa : ees env with
  | stuck => rw [qa] at m; exact m.elim
  | exc x s => rw [qa] at m; exact m.elim
  | ok as env1 =>
    rw [qa] at m
    exact fun vs G1 H1 s1 ar => by
      show spOf (gm X cl) F (vs ++ []) H1 _ EE
      rw [List.append_nil]; exact m vs G1 H1 s1 ar
theorem s_call0 (Fk : FnOk X.prog X.w X.K X.mg X.base CX0 k f fd ps (spOf (gm X cl) F)) (hr : Room k X.A) (hg : Gl X x) (hm : X.mg x = some (.ref f)) (hk : PySem.W.keepIn X.K (.ref f) = true) (hb : Binds X.K fd ps [])
    (hdb : (x == ("__debug__" : Str)) = false) :
    PE X (.Call (.Name x p) [] [] pos) (tX (gm X cl) fun env => callR F [] env) := by
  refine pe_imp (pe_sz (pe_call0 Fk hr hg hm hk hb .nil (passes0 (E := EE)) hdb)) fun σ H Q ⟨G, env, R0, m⟩ => ?_
  refine call_ev (E := EE) R0 .nil ?_
  dsimp only at m
  cases qc : callR F [] env with
  | stuck => rw [qc] at m; exact m.elim
  | exc x s => rw [qc] at m; exact m.elim
  | ok r env2 =>
    rw [qc] at m
    exact fun v G' H' s2 rr sz => m v G' H' s2 rr sz
/-! keywords -/
def gP {α : Type} (perm : List Nat) (us ws : List α) : List α := (permA (us ++ ws) perm).getD []
theorem vals_get {vs : List V} {us : List Value} : Vals vs us → ∀ (i : Nat) (v : V), vs[i]? = some v → ∃ u, us[i]? = some u ∧ RelV v u := fun r i v h => let ⟨u, h1, h2⟩ := r.get h; ⟨u, h1, h2⟩
theorem vals_perm {vs : List V} {us : List Value} (r : Vals vs us) : ∀ (p : List Nat), (permArgs vs p = none ∧ permArgs us p = none) ∨ ∃ ws xs, permArgs vs p = some ws ∧ permArgs us p = some xs ∧ Vals ws xs
  | [] => .inr ⟨[], [], rfl, rfl, .nil⟩
  | i :: p => by
    simp only [permArgs]
    cases q : vs[i]? with
    | none =>
      have : us[i]? = none := by
        rw [List.getElem?_eq_none_iff] at q ⊢
        rw [← r.length]; exact q
      rw [this]
      exact .inl ⟨rfl, rfl⟩
    | some v =>
      obtain ⟨u, h1, h2⟩ := r.get q
      rw [h1]
      rcases vals_perm r p with ⟨a, b⟩ | ⟨ws, xs, a, b, c⟩
      · rw [a, b]; exact .inl ⟨rfl, rfl⟩
      · rw [a, b]; exact .inr ⟨_, _, rfl, rfl, .cons h2 c⟩
theorem gP_rel {perm : List Nat} {vs zs : List V} {us ws : List Value} (r : Vals vs us) (rz : Vals zs ws) : Vals (gP perm vs zs) (gP perm us ws) := by
  unfold gP permA
  cases perm.isEmpty with
  | true => rw [if_pos rfl, if_pos rfl]; exact r.append rz
  | false =>
    rw [if_neg (fun z => nomatch z), if_neg (fun z => nomatch z)]
    rcases vals_perm (r.append rz) perm with ⟨a, b⟩ | ⟨ws, xs, a, b, c⟩
    · rw [a, b]; exact .nil
    · rw [a, b]; exact c
/-- n values by position, the keywords ks: the parameters' values by perm -/
def KwTo (K : PySem.W.Frag) (fd : FuncData) (ps : List Str) (n : Nat) (ks : List Str) (perm : List Nat) : Prop :=
  ∀ (us ws : List Value), us.length = n → ws.length = ks.length → bindArgs fd ⟨us, ks.zip ws⟩ = pure (ps.zip (gP perm us ws))
theorem KwTo.kbn {K : PySem.W.Frag} {n : Nat} {ks : List Str} {perm : List Nat} (h : KwTo K fd ps n ks perm) : KBn K fd ps n ks (gP perm) (gP perm) :=
  ⟨fun s us ws _ l1 l2 => .of_eq (h us ws l1 l2), fun r rz => gP_rel r rz⟩
theorem pe_callN0 {n : Nat} {ks : List Str} {sp : Sp} {E : XK} {CX : CXT} {kws : List Keyword} {tk : TA} {g : List Value → List Value → List Value} {gV : List V → List V → List V} (Fk : FnOk X.prog X.w X.K X.mg X.base CX k f fd ps sp) (hr : Room k X.A) (hg : Gl X x) (hm : X.mg x = some (.ref f)) (hk : PySem.W.keepIn X.K (.ref f) = true) (hb : KBn X.K fd ps 0 ks g gV) (hx : Passes CX X E)
    (hkw : PK X kws tk) (hall : (backToKw pos (keywordEach kws X.env)).all (·.1.isSome) = true) (hks : (backToKw pos (keywordEach kws X.env)).filterMap (·.1) = ks)
    (hdb : (x == ("__debug__" : Str)) = false) (hpl : ((backTo pos (starEach [] X.env)).any (·.1) || (backToKw pos (keywordEach kws X.env)).any (·.1.isNone)) = false) :
    PE X (.Call (.Name x p) [] kws pos) (tCallN 0 ks.length sp gV E tNil tk) := by
  refine ⟨fun pins s σ H Q I h => ?_⟩
  refine wpAny_Call_Name_kw (ld_glob I hg hm ?_ hdb)
  refine PySem.W.callWith_KW0 (h₀ := X.base) I.ok.mod.kin hk hall (thn (hkw.run pos pins s σ H _ I h) fun ws s2 ⟨zs, H2, I2, rz, l1, l2, q2⟩ => ⟨I2.kIn, ?_⟩) hpl
  rw [hks]
  exact run_fnN Fk hr hb hx I2 .nil rz l1 l2 q2
theorem callK_ev {n m : Nat} {perm : List Nat} {ea ek : En → Res En (List Arg)} (hn : ∀ env xs env', ea env = .ok xs env' → xs.length = n) (hm : ∀ env xs env', ek env = .ok xs env' → xs.length = m) {σ : L2.St} {H : Hp} {Q : VK} {E : XK}
    (z : tX (gm X cl) (fun env => (ea env).bind fun xs env1 => (ek env1).bind fun ys env2 => match permA (xs ++ ys) perm with
      | some zs => callR F zs env2
      | none => .stuck) σ H Q) :
    tAs (gm X cl) ea σ H fun vs H1 => tAs (gm X cl) ek σ H1 fun zs H2 => vs.length = n ∧ zs.length = m ∧ spOf (gm X cl) F (gP perm vs zs) H2 (fun v H' => Sz X.K H' → Q v H') E := by
  obtain ⟨G, env, R0, mm⟩ := z
  refine ⟨G, env, R0, ?_⟩
  dsimp only at mm ⊢
  cases qa : ea env with
  | stuck => rw [qa] at mm; exact mm.elim
  | exc x s => rw [qa] at mm; exact mm.elim
  | ok as env1 =>
    rw [qa, Res.bind_ok] at mm
    intro vs G1 H1 s1 ar
    refine ⟨G1, env1, s1.rel, ?_⟩
    cases qk : ek env1 with
    | stuck => rw [qk] at mm; exact mm.elim
    | exc x s => rw [qk] at mm; exact mm.elim
    | ok bs env2 =>
      rw [qk, Res.bind_ok] at mm
      intro zs G2 H2 s2 ar2
      refine ⟨by rw [ar.length]; exact hn _ _ _ qa, by rw [ar2.length]; exact hm _ _ _ qk, ?_⟩
      cases qp : permA (as ++ bs) perm with
      | none => rw [qp] at mm; exact mm.elim
      | some cs =>
        rw [qp] at mm
        dsimp only at mm
        have arG : ARs (gm X cl) G2 σ (vs ++ zs) (as ++ bs) := (ar.mono s2.keep.ss).append ar2
        obtain ⟨ws, e1, ar3⟩ := arG.permA qp
        unfold gP
        rw [e1]
        refine call_ev s2.rel ar3 ?_
        cases qc : callR F cs env2 with
        | stuck => rw [qc] at mm; exact mm.elim
        | exc x s => rw [qc] at mm; exact mm.elim
        | ok r env3 =>
          rw [qc] at mm
          exact fun v G' H' s3 rr sz => mm v G' H' ((s1.trans s2).trans s3) (rr.back fun a h => s2.keep.up a (s1.keep.up a h)) sz
theorem s_callK {n : Nat} {ks : List Str} {perm : List Nat} {kws : List Keyword} {ea ek : En → Res En (List Arg)} (Fk : FnOk X.prog X.w X.K X.mg X.base CX0 k f fd ps (spOf (gm X cl) F)) (hr : Room k X.A) (hg : Gl X x) (hm : X.mg x = some (.ref f)) (hk : PySem.W.keepIn X.K (.ref f) = true) (hb : KwTo X.K fd ps n ks perm)
    (ha : PA X (e :: es) (tAs (gm X cl) ea)) (hkw : PK X kws (tAs (gm X cl) ek)) (hn : ∀ env xs env', ea env = .ok xs env' → xs.length = n) (hl : ∀ env xs env', ek env = .ok xs env' → xs.length = ks.length)
    (hall : (backToKw pos (keywordEach kws X.env)).all (·.1.isSome) = true) (hks : (backToKw pos (keywordEach kws X.env)).filterMap (·.1) = ks)
    (hdb : (x == ("__debug__" : Str)) = false) (he : starEach (e :: es) X.env = (false, eval e X.env) :: starEach es X.env)
    (hpl : ((backTo pos (starEach (e :: es) X.env)).any (·.1) || (backToKw pos (keywordEach kws X.env)).any (·.1.isNone)) = false) :
    PE X (.Call (.Name x p) (e :: es) kws pos) (tX (gm X cl) fun env => (ea env).bind fun xs env1 => (ek env1).bind fun ys env2 => match permA (xs ++ ys) perm with
      | some zs => callR F zs env2
      | none => .stuck) :=
  pe_imp (pe_sz (pe_callN Fk hr hg hm hk hb.kbn (passes0 (E := EE)) ha hkw hall hks hdb he hpl)) fun σ H Q z => callK_ev hn hl z
theorem s_callK0 {ks : List Str} {perm : List Nat} {kws : List Keyword} {ek : En → Res En (List Arg)} (Fk : FnOk X.prog X.w X.K X.mg X.base CX0 k f fd ps (spOf (gm X cl) F)) (hr : Room k X.A) (hg : Gl X x) (hm : X.mg x = some (.ref f)) (hk : PySem.W.keepIn X.K (.ref f) = true) (hb : KwTo X.K fd ps 0 ks perm)
    (hkw : PK X kws (tAs (gm X cl) ek)) (hl : ∀ env xs env', ek env = .ok xs env' → xs.length = ks.length)
    (hall : (backToKw pos (keywordEach kws X.env)).all (·.1.isSome) = true) (hks : (backToKw pos (keywordEach kws X.env)).filterMap (·.1) = ks)
    (hdb : (x == ("__debug__" : Str)) = false)
    (hpl : ((backTo pos (starEach [] X.env)).any (·.1) || (backToKw pos (keywordEach kws X.env)).any (·.1.isNone)) = false) :
    PE X (.Call (.Name x p) [] kws pos) (tX (gm X cl) fun env => (Res.ok ([] : List Arg) env).bind fun xs env1 => (ek env1).bind fun ys env2 => match permA (xs ++ ys) perm with
      | some zs => callR F zs env2
      | none => .stuck) := by
  refine pe_imp (pe_sz (pe_callN0 (n := 0) Fk hr hg hm hk hb.kbn (passes0 (E := EE)) hkw hall hks hdb hpl)) fun σ H Q z => ?_
  obtain ⟨G, env, R0, m⟩ := callK_ev (ea := fun env => .ok [] env) (n := 0) (m := ks.length) (E := EE) (fun env xs env' h => by cases h; rfl) hl z
  exact m [] G H (.refl R0) .nil
end
end Tk

set_option Elab.async false
set_option linter.all false
set_option maxRecDepth 100000
set_option maxHeartbeats 2000000
/-! Ir13: steps of statements; stores. -/
namespace Tk
open PySem PySem.Spec L2

structure SStp (Γ : Gm) (σ : L2.St) (G H : Hp) (env : En) (σ' : L2.St) (G' H' : Hp) (env' : En) : Prop where
  rel : Rel Γ G' H' σ' env'
  keep : Keep G H (Fp σ env) G' H'
  len : env'.length = env.length
  io : ∀ (i : Nat) (c : C), env[i]? = some (some (.io c)) → (∃ c', env'[i]? = some (some (.io c'))) ∧ σ'[i]? = σ[i]?
  io' : ∀ (i : Nat) (c' : C), env'[i]? = some (some (.io c')) → ∃ c, env[i]? = some (some (.io c))
  fp : ∀ a, Fp σ' env' a → Fp σ env a ∨ H a = none
section
variable {Γ : Gm} {σ σ' : L2.St} {G H G' H' : Hp} {env env' : En}
theorem Stp.s (s : Stp Γ σ G H env G' H' env') : SStp Γ σ G H env σ G' H' env' :=
  ⟨s.rel, s.keep, s.le.len, fun i c h => ⟨s.le.io i c h, rfl⟩, s.le.io', fun a f => .inl (s.le.fp f)⟩
theorem SStp.refl (R : Rel Γ G H σ env) : SStp Γ σ G H env σ G H env := (Stp.refl R).s
theorem SStp.trans {σ2 : L2.St} {G2 H2 : Hp} {env2 : En} (a : SStp Γ σ G H env σ' G' H' env') (b : SStp Γ σ' G' H' env' σ2 G2 H2 env2) : SStp Γ σ G H env σ2 G2 H2 env2 where
  rel := b.rel
  keep := a.keep.trans b.keep a.fp
  len := b.len.trans a.len
  io := fun i c h => by
    obtain ⟨⟨c1, h1⟩, e1⟩ := a.io i c h
    obtain ⟨⟨c2, h2⟩, e2⟩ := b.io i c1 h1
    exact ⟨⟨c2, h2⟩, e2.trans e1⟩
  io' := fun i c h => let ⟨c1, h1⟩ := b.io' i c h; a.io' i c1 h1
  fp := fun x f => by
    rcases b.fp x f with f | z
    · exact a.fp x f
    · cases q : H x with
      | none => exact .inr rfl
      | some o => exact absurd z (a.keep.up x (by rw [q]; exact fun z => nomatch z))
/-! slots stored -/
theorem Rel.setOwn {v : V} {c : C} (R0 : Rel Γ G H σ env) (i : Nat) (h : Cel Γ G H v c) (nf : ∀ a, v = .ref a → ¬ Fp σ env a) : Rel Γ G H (σ.set i (some v)) (env.set i (some (.own c))) where
  len := by rw [List.length_set, List.length_set]; exact R0.len
  gh := R0.gh
  slot := fun j s hs => by
    rw [get_set] at hs ⊢
    by_cases hij : i = j
    · rw [if_pos hij] at hs ⊢
      rw [R0.len]
      by_cases hl : i < env.length
      · rw [if_pos hl] at hs ⊢
        cases hs
        exact ⟨v, rfl, h⟩
      · rw [if_neg hl] at hs; cases hs
    · rw [if_neg hij] at hs ⊢
      exact R0.slot j s hs
  sep := fun j k s s' c1 c2 h1 h2 h3 h4 h5 => by
    rw [get_set] at h1 h3
    have oth : ∀ (k : Nat) (s : S) (c : C), i ≠ k → env[k]? = some (some s) → s.cell = some c → (σ.set i (some v))[i]? = (σ.set i (some v))[k]? → i < env.length → False := fun k s c hk e ec es hl => by
      rw [get_set, get_set, if_pos rfl, if_neg hk, R0.len, if_pos hl] at es
      obtain ⟨a, rfl, _⟩ := id h
      exact nf a rfl ⟨k, s, c, e, ec, es.symm⟩
    by_cases hj : i = j
    · subst hj
      rw [if_pos rfl] at h1
      by_cases hl : i < env.length
      · rw [if_pos hl] at h1
        by_cases hk : i = k
        · exact hk
        · rw [if_neg hk] at h3
          exact (oth k s' c2 hk h3 h4 h5 hl).elim
      · rw [if_neg hl] at h1; cases h1
    · rw [if_neg hj] at h1
      by_cases hk : i = k
      · subst hk
        rw [if_pos rfl] at h3
        by_cases hl : i < env.length
        · exact (oth j s c1 hj h1 h2 h5.symm hl).elim
        · rw [if_neg hl] at h3; cases h3
      · rw [if_neg hk] at h3
        refine R0.sep j k s s' c1 c2 h1 h2 h3 h4 ?_
        rwa [get_set, get_set, if_neg hj, if_neg hk] at h5
theorem setS_some {i : Nat} {s : S} {env2 : En} (h : setS env i s = some env2) : env2 = env.set i (some s) ∧ i < env.length ∧ ∀ c, env[i]? ≠ some (some (.io c)) := by
  unfold setS at h
  split at h
  · cases h
  · rename_i o hn e
    cases h
    exact ⟨rfl, (List.getElem?_eq_some_iff.mp e).1, fun c z => by rw [z] at e; injection e with e; exact hn c e.symm⟩
  · cases h
/-- slot i, not one by reference, is overwritten -/
theorem SStp.set_io {v : V} {s : S} (st : SStp Γ σ G H env σ' G' H' env') {i : Nat} (hn : ∀ c, env'[i]? ≠ some (some (.io c))) (ns : ∀ c, s ≠ .io c) (R : Rel Γ G' H' (σ'.set i (some v)) (env'.set i (some s)))
    (hf : ∀ a, s.cell ≠ none → v = .ref a → H a = none) : SStp Γ σ G H env (σ'.set i (some v)) G' H' (env'.set i (some s)) where
  rel := R
  keep := st.keep
  len := by rw [List.length_set]; exact st.len
  io := fun j c h => by
    obtain ⟨⟨c', h1⟩, h2⟩ := st.io j c h
    have hij : i ≠ j := fun z => by subst z; exact hn _ h1
    rw [get_set, get_set, if_neg hij, if_neg hij]
    exact ⟨⟨c', h1⟩, h2⟩
  io' := fun j c h => by
    rw [get_set] at h
    by_cases hij : i = j
    · rw [if_pos hij] at h
      split at h
      · injection h with h; injection h with h; exact absurd h (ns c)
      · cases h
    · rw [if_neg hij] at h; exact st.io' j c h
  fp := fun a ⟨j, s', c', h1, h2, h3⟩ => by
    rw [get_set] at h1 h3
    by_cases hij : i = j
    · rw [if_pos hij] at h1 h3
      split at h1
      · split at h3
        · cases h1; cases h3
          exact .inr (hf a (by rw [h2]; exact fun z => nomatch z) rfl)
        · cases h3
      · cases h1
    · rw [if_neg hij] at h1 h3
      exact st.fp a ⟨j, s', c', h1, h2, h3⟩
/-- a value is stored: a datum, or a new thing that becomes the slot's own -/
theorem store_own {v : V} {r : R} {s : S} {i : Nat} {env2 : En} (st : SStp Γ σ G H env σ' G' H' env') (h : RR Γ H G' H' σ' v r) (e : ownS r = some s) (es : setS env' i s = some env2) (nf : ∀ a, r.frz ≠ .bor i → v = .ref a → (∃ c, r = .own c) → ¬ Fp σ' env' a) :
    SStp Γ σ G H env (σ'.set i (some v)) G' H' env2 := by
  obtain ⟨rfl, hl, hn⟩ := setS_some es
  cases r with
  | d x =>
    cases e
    exact st.set_io hn (fun c z => nomatch z) (st.rel.setD i (show Rep Γ G' v x from h)) fun a z => absurd rfl z
  | own c =>
    cases e
    exact st.set_io hn (fun c z => nomatch z) (st.rel.setOwn i h.1 fun a z => nf a (fun z => nomatch z) z ⟨c, rfl⟩) fun a _ z => h.2 a z
  | bor j => cases e
theorem fresh_fp {v : V} {c : C} {G1 H1 : Hp} {env1 : En} (R0 : Rel Γ G H σ env) (s1 : Stp Γ σ G H env G1 H1 env1) (h : RR Γ H G1 H1 σ v (.own c)) {a : Addr} (e : v = .ref a) : ¬ Fp σ env1 a := fun f => (R0.fp_g (s1.le.fp f)).2 (h.2 a e)
theorem bindNames_cell : ∀ {l : List Nat} {ds : List D} {env env' : En} {j : Nat} {s : S}, bindNames l ds env = some env' → j ∈ l → env'[j]? = some (some s) → s.cell = none
  | [], _, _, _, _, _, _, hj, _ => by simp at hj
  | i :: is, [], env, env', j, s, e, _, _ => by cases e
  | i :: is, x :: xs, env, env', j, s, e, hj, hs => by
    have e : bindNames is xs (env.set i (some (.d x))) = some env' := e
    by_cases hj2 : j ∈ is
    · exact bindNames_cell e hj2 hs
    · rw [bindNames_get _ _ _ _ e j hj2, get_set] at hs
      rcases List.mem_cons.mp hj with z | z
      · subst z
        rw [if_pos rfl] at hs
        split at hs
        · cases hs; rfl
        · cases hs
      · exact absurd z hj2
theorem bindT_cell {t : IT} {d : D} {j : Nat} {s : S} (h : bindT t d env = some env') (hj : j ∈ t.slots) (hs : env'[j]? = some (some s)) : s.cell = none := by
  cases t with
  | name i =>
    have h : some (env.set i (some (.d d))) = some env' := h
    cases h
    have hj : j = i := by simpa [IT.slots] using hj
    subst hj
    rw [get_set, if_pos rfl] at hs
    split at hs
    · cases hs; rfl
    · cases hs
  | tup l =>
    cases d with
    | tup ds => exact bindNames_cell (show bindNames l ds env = some env' from h) hj hs
    | _ => cases h
theorem noIo_mem : ∀ {l : List Nat} {i : Nat}, noIo env l = true → i ∈ l → ∀ c, env[i]? ≠ some (some (.io c))
  | j :: r, i, h, hi, c => by
    unfold noIo at h
    rw [Bool.and_eq_true] at h
    rcases List.mem_cons.mp hi with z | z
    · subst z
      intro e
      rw [e] at h
      cases h.1
    · exact noIo_mem h.2 z c
/-- names are bound to a datum -/
theorem bind_step {t : IT} {d : D} {env2 : En} {σ2 : L2.St} (st : SStp Γ σ G H env σ' G' H' env') (h : bindS t d env' = some env2) (R : Rel Γ G' H' σ2 env2) (hσ : ∀ j, j ∉ t.slots → σ2[j]? = σ'[j]?) : SStp Γ σ G H env σ2 G' H' env2 := by
  unfold bindS at h
  split at h
  · rename_i hn
    have hio : ∀ (i : Nat) (c : C), i ∈ t.slots → env'[i]? ≠ some (some (.io c)) := fun i c hi => noIo_mem hn hi c
    have hout : ∀ (i : Nat) (s : S) (c : C), env2[i]? = some (some s) → s.cell = some c → i ∉ t.slots := fun i s c e ec hi => by rw [bindT_cell h hi e] at ec; cases ec
    refine ⟨R, st.keep, by rw [bindT_length h]; exact st.len, fun i c e => ?_, fun i c e => ?_, fun a ⟨j, s, c, h1, h2, h3⟩ => ?_⟩
    · obtain ⟨⟨c', h1⟩, h2⟩ := st.io i c e
      have hi : i ∉ t.slots := fun z => hio i c' z h1
      exact ⟨⟨c', by rw [bindT_get h i hi]; exact h1⟩, (hσ i hi).trans h2⟩
    · have hi := hout i _ c e rfl
      rw [bindT_get h i hi] at e
      exact st.io' i c e
    · have hj := hout j s c h1 h2
      rw [bindT_get h j hj] at h1
      rw [hσ j hj] at h3
      exact st.fp a ⟨j, s, c, h1, h2, h3⟩
  · cases h
/-- a slot's list changes -/
theorem cell_step {i : Nat} {s : S} {l l' : List D} {a : Addr} {ys : List V} (R0 : Rel Γ G H σ env) (e : env[i]? = some (some s)) (ec : s.cell = some (.lst l)) (ev : σ[i]? = some (some (.ref a))) (r : RepAll Γ G ys l') :
    Stp Γ σ G H env G (upd H a (.lst ys)) (putCell env i (.lst l')) := by
  have fp : Fp σ env a := ⟨i, s, _, e, ec, ev⟩
  obtain ⟨ga, ha⟩ := R0.fp_g fp
  obtain ⟨s', h1, h2, h3, h4⟩ := putCell_at (c := .lst l') e ec
  have le := putCell_le (c := .lst l') e ec
  have gh : Same G (upd H a (.lst ys)) := fun b o q => by
    rw [upd_ne (fun z => by subst z; rw [ga] at q; cases q)]
    exact R0.gh b o q
  have cel : Cel Γ G (upd H a (.lst ys)) (.ref a) (.lst l') := ⟨a, rfl, ga, ys, upd_same, r⟩
  refine ⟨⟨by rw [putCell_len]; exact R0.len, gh, fun j s1 hs => ?_, fun j k s1 s2 c1 c2 q1 q2 q3 q4 q5 => ?_⟩, ⟨.refl _, fun b o q n => ?_, fun b q => .inl q, fun b q => ?_⟩, le⟩
  · by_cases hj : j = i
    · subst hj
      rw [h1] at hs
      cases hs
      refine ⟨_, ev, ?_⟩
      cases s' with
      | d x => cases h2
      | own c => cases h2; exact cel
      | io c => cases h2; exact cel
    · rw [putCell_ne hj] at hs
      obtain ⟨v, q1, q2⟩ := R0.slot j s1 hs
      refine ⟨v, q1, q2.keep (.refl _) (fun b c qc z => ?_) fun b o c qc z q => ?_⟩
      · subst z; exact (R0.fp_g ⟨j, s1, c, hs, qc, q1⟩).1
      · subst z
        rw [upd_ne fun z => ?_]
        · exact q
        · subst z; exact hj (R0.sep j i s1 s c _ hs qc e ec (q1.trans ev.symm))
  · obtain ⟨s3, c3, z1, z2⟩ := le.own j s1 c1 q1 q2
    obtain ⟨s4, c4, z3, z4⟩ := le.own k s2 c2 q3 q4
    exact R0.sep j k s3 s4 c3 c4 z1 z2 z3 z4 q5
  · rw [upd_ne fun z => by subst z; exact n fp]
    exact q
  · by_cases hb : b = a
    · subst hb; rw [upd_same]; exact fun z => nomatch z
    · rw [upd_ne hb]; exact q
/-- the list at a slot -/
theorem slot_lst {i : Nat} {l : List D} (R0 : Rel Γ G H σ env) (e : cellAt env i = some (.lst l)) : ∃ s a xs, env[i]? = some (some s) ∧ s.cell = some (.lst l) ∧ σ[i]? = some (some (.ref a)) ∧ H a = some (.lst xs) ∧ RepAll Γ G xs l := by
  obtain ⟨s, h1, h2⟩ := cellAt_some e
  obtain ⟨v, h3, a, rfl, ga, xs, h4, h5⟩ := R0.own h1 h2
  exact ⟨s, a, xs, h1, h2, h3, h4, h5⟩
end
end Tk

set_option Elab.async false
set_option linter.all false
set_option maxRecDepth 100000
set_option maxHeartbeats 2000000
/-! Ir14: statements. -/
namespace Tk
open PySem PySem.Spec L2

/-- what the statement's outcome says of where it leads -/
def FlR (Γ : Gm) (D : Ends) (σ : L2.St) (G H : Hp) (env : En) : Res En Fl → Prop
  | .ok .nx env' => ∀ σ' G' H', SStp Γ σ G H env σ' G' H' env' → D.nx σ' H'
  | .ok .brk env' => ∀ σ' G' H', SStp Γ σ G H env σ' G' H' env' → D.bk σ' H'
  | .ok .cnt env' => ∀ σ' G' H', SStp Γ σ G H env σ' G' H' env' → D.ct σ' H'
  | .ok (.ret r) env' => ∀ σ' G' H' v, SStp Γ σ G H env σ' G' H' env' → RR Γ H G' H' σ' v r → D.rt v H'
  | _ => False
def tS (Γ : Gm) (ev : En → Res En Fl) : TS := fun D σ H => ∃ G env, Rel Γ G H σ env ∧ FlR Γ D σ G H env (ev env)
theorem FlR.from {Γ : Gm} {D : Ends} {σ σ1 : L2.St} {G H G1 H1 : Hp} {env env1 : En} {r : Res En Fl} (s : SStp Γ σ G H env σ1 G1 H1 env1) (h : FlR Γ D σ G H env r) : FlR Γ D σ1 G1 H1 env1 r := by
  cases r with
  | stuck => exact h
  | exc x e => exact h
  | ok fl env' =>
    cases fl with
    | nx => exact fun σ' G' H' s2 => h σ' G' H' (s.trans s2)
    | brk => exact fun σ' G' H' s2 => h σ' G' H' (s.trans s2)
    | cnt => exact fun σ' G' H' s2 => h σ' G' H' (s.trans s2)
    | ret r => exact fun σ' G' H' v s2 rr => h σ' G' H' v (s.trans s2) (rr.back s.keep.up)
section
variable {X : Cx} {cl : Nat → Addr} {e tg : Expr} {pos : Pos} {st : Stmt} {rest : List Stmt}
theorem ps_sz {t : TS} (h : PS X st t) : PS X st (fun D σ H => t { D with nx := fun σ' H' => Sz X.K H' → D.nx σ' H' } σ H) :=
  ⟨fun pins s σ H D I z => thn (h.run pins s σ H _ I z) fun f s' q => by
    cases f with
    | next => obtain ⟨σ', H', I', q⟩ := q; exact ⟨σ', H', I', q (inv_sz I')⟩
    | brk => exact q
    | cont => exact q
    | ret v => exact q⟩
/-! plain ones -/
theorem s_pass : PS X (.Pass pos) (tS (gm X cl) fun env => .ok .nx env) := ps_imp ps_pass fun D σ H ⟨G, env, R0, m⟩ => m σ G H (.refl R0)
theorem s_brk : PS X (.Break pos) (tS (gm X cl) fun env => .ok .brk env) := ps_imp ps_break fun D σ H ⟨G, env, R0, m⟩ => m σ G H (.refl R0)
theorem s_cnt : PS X (.Continue pos) (tS (gm X cl) fun env => .ok .cnt env) := ps_imp ps_continue fun D σ H ⟨G, env, R0, m⟩ => m σ G H (.refl R0)
theorem s_retN : PS X (.Return none pos) (tS (gm X cl) fun env => .ok (.ret (.d .non)) env) := ps_imp ps_retN fun D σ H ⟨G, env, R0, m⟩ => m σ G H .non (.refl R0) Rep.non
theorem s_ret {ev : En → Res En R} (h : PE X e (tX (gm X cl) ev)) : PS X (.Return (some e) pos) (tS (gm X cl) fun env => (ev env).bind fun x env1 => .ok (.ret x) env1) :=
  ps_imp (ps_ret h) fun D σ H ⟨G, env, R0, m⟩ => ⟨G, env, R0, by
    dsimp only at m
    cases q : ev env with
    | stuck => rw [q] at m; exact m.elim
    | exc x s => rw [q] at m; exact m.elim
    | ok r env1 => rw [q, Res.bind_ok] at m; exact fun v G' H' s rr _ => m σ G' H' v s.s rr⟩
theorem s_expr {ev : En → Res En R} (h : PE X e (tX (gm X cl) ev)) (hs : swapsWith e none pos.line X.env = pure false) : PS X (.Expr e pos) (tS (gm X cl) fun env => (ev env).bind fun _ env1 => .ok .nx env1) :=
  ps_imp (ps_expr h hs) fun D σ H ⟨G, env, R0, m⟩ => ⟨G, env, R0, by
    dsimp only at m
    cases q : ev env with
    | stuck => rw [q] at m; exact m.elim
    | exc x s => rw [q] at m; exact m.elim
    | ok r env1 => rw [q, Res.bind_ok] at m; exact fun v G' H' s rr _ => m σ G' H' s.s⟩
/-! suites -/
theorem s_snil : PSs X [] (tS (gm X cl) fun env => .ok .nx env) := pss_imp pss_nil fun D σ H ⟨G, env, R0, m⟩ => m σ G H (.refl R0)
theorem s_scons {e1 e2 : En → Res En Fl} (h1 : PS X st (tS (gm X cl) e1)) (h2 : PSs X rest (tS (gm X cl) e2)) :
    PSs X (st :: rest) (tS (gm X cl) fun env => (e1 env).bind fun fl env1 => match fl with
      | .nx => e2 env1
      | fl => .ok fl env1) :=
  pss_imp (pss_cons h1 h2) fun D σ H ⟨G, env, R0, m⟩ => ⟨G, env, R0, by
    dsimp only at m
    cases q : e1 env with
    | stuck => rw [q] at m; exact m.elim
    | exc x s => rw [q] at m; exact m.elim
    | ok fl env1 =>
      rw [q, Res.bind_ok] at m
      cases fl with
      | nx => exact fun σ' G' H' s => ⟨G', env1, s.rel, FlR.from s m⟩
      | brk => exact m
      | cnt => exact m
      | ret r => exact m⟩
theorem s_if {c : Expr} {a b : List Stmt} {ec : En → Res En Bool} {ea eb : En → Res En Fl} (hc : PT X c (tT (gm X cl) ec)) (ha : PSs X a (tS (gm X cl) ea)) (hb : PSs X b (tS (gm X cl) eb)) :
    PS X (.If c a b pos) (tS (gm X cl) fun env => (ec env).bind fun k env1 => if k = true then ea env1 else eb env1) :=
  ps_imp (ps_if hc ha hb) fun D σ H ⟨G, env, R0, m⟩ => ⟨G, env, R0, by
    dsimp only at m
    cases q : ec env with
    | stuck => rw [q] at m; exact m.elim
    | exc x s => rw [q] at m; exact m.elim
    | ok k env1 =>
      rw [q, Res.bind_ok] at m
      intro G' H' s _
      cases k with
      | true => rw [if_pos rfl] at m ⊢; exact ⟨G', env1, s.rel, FlR.from s.s m⟩
      | false => rw [if_neg Bool.false_ne_true] at m ⊢; exact ⟨G', env1, s.rel, FlR.from s.s m⟩⟩
/-! stores -/
theorem lift_ok {α : Type} {o : Option α} {env env' : En} {x : α} (h : lift o env = .ok x env') : o = some x ∧ env' = env := by
  cases o with
  | none => cases h
  | some a => cases h; exact ⟨rfl, rfl⟩
theorem bindS_T {t : IT} {x : Tk.D} {env env' : En} (h : bindS t x env = some env') : bindT t x env = some env' := by
  unfold bindS at h
  split at h
  · exact h
  · cases h
theorem asg_ev {ea : En → Res En W} {t : IT} {σ : L2.St} {H : Hp} {D : Ends}
    (z : tS (gm X cl) (fun env => (ea env).bind fun x env1 => match x with
      | .d x => (lift (bindS t x env1) env1).bind fun env2 _ => .ok .nx env2
      | .bor _ => .stuck) D σ H) : tW (gm X cl) ea σ H fun v H1 => tG (gm X cl) t v σ H1 D.nx := by
  obtain ⟨G, env, R0, m⟩ := z
  refine ⟨G, env, R0, ?_⟩
  dsimp only at m
  cases q : ea env with
  | stuck => rw [q] at m; exact m.elim
  | exc x s => rw [q] at m; exact m.elim
  | ok x env1 =>
    rw [q, Res.bind_ok] at m
    cases x with
    | bor i => exact m.elim
    | d x =>
      intro v G' H' s w _
      refine ⟨G', env1, x, s.rel, w, ?_⟩
      dsimp only at m
      cases qb : bindS t x env1 with
      | none => rw [qb] at m; exact m.elim
      | some env2 =>
        rw [qb] at m
        have qb' : bindT t x env1 = some env2 := bindS_T qb
        rw [qb']
        exact fun σ' R' hσ => m σ' G' H' (bind_step s.s qb R' hσ)
theorem s_asg {ea : En → Res En W} {t : IT} (h : PE X e (tW (gm X cl) ea)) (hg : PG X tg (tG (gm X cl) t)) (hs : swapsWithSole [tg] e pos.line X.env = pure false) (hw : swappedStores [tg] e X.env = pure none)
    (h1 : (assignEach [tg] X.env).map (·.2) = [assign tg X.env]) : PS X (.Assign [tg] e pos) (tS (gm X cl) fun env => (ea env).bind fun x env1 => match x with
      | .d x => (lift (bindS t x env1) env1).bind fun env2 _ => .ok .nx env2
      | .bor _ => .stuck) := ps_imp (ps_asg h hg hs hw h1) fun D σ H z => asg_ev z
/-- name = e, however it is stored -/
theorem asg1_ev {ev : En → Res En R} {i : Nat} {σ : L2.St} {H : Hp} {D : Ends}
    (z : tS (gm X cl) (fun env => (ev env).frz.bind fun x env1 => match x with
      | .d x => (lift (bindS (.name i) x env1) env1).bind fun env2 _ => .ok .nx env2
      | .bor _ => .stuck) D σ H) : tX (gm X cl) ev σ H fun v H1 => D.nx (σ.set i (some v)) H1 := by
  obtain ⟨G, env, R0, m⟩ := z
  refine ⟨G, env, R0, ?_⟩
  dsimp only at m
  cases q : ev env with
  | stuck => rw [q] at m; exact m.elim
  | exc x s => rw [q] at m; exact m.elim
  | ok r env1 =>
    have m : FlR (gm X cl) D σ G H env (match r.frz with
      | .d x => (lift (bindS (.name i) x env1) env1).bind fun env2 _ => .ok .nx env2
      | .bor _ => .stuck) := by rw [q] at m; exact m
    have fin : ∀ (x : Tk.D) (v : V) (G' H' : Hp), FlR (gm X cl) D σ G H env ((lift (bindS (.name i) x env1) env1).bind fun env2 _ => .ok .nx env2) → Stp (gm X cl) σ G H env G' H' env1 → Rep (gm X cl) G' v x → D.nx (σ.set i (some v)) H' := fun x v G' H' m s w => by
      cases qb : bindS (.name i) x env1 with
      | none => rw [qb] at m; exact m.elim
      | some env2 =>
        rw [qb] at m
        have qb' : bindT (.name i) x env1 = some env2 := bindS_T qb
        have e2 : some (env1.set i (some (.d x))) = some env2 := qb'
        cases e2
        exact m _ G' H' (bind_step s.s qb (s.rel.setD i w) fun j hj => by rw [get_set, if_neg fun z => hj (by rw [← z]; exact List.mem_singleton.mpr rfl)])
    intro v G' H' s rr _
    cases r with
    | bor j => exact m.elim
    | d x => exact fin x v G' H' m s rr
    | own c =>
      obtain ⟨G2, st2, r2, _⟩ := s.frz R0 rr.1 rr.2
      exact fin c.toD v G2 H' m st2 r2
theorem own_ev {ev : En → Res En R} {i : Nat} {σ : L2.St} {H : Hp} {D : Ends}
    (z : tS (gm X cl) (fun env => (ev env).bind fun x env1 => (lift ((ownS x).bind fun s => setS env1 i s) env1).bind fun env2 _ => .ok .nx env2) D σ H) :
    tX (gm X cl) ev σ H fun v H1 => D.nx (σ.set i (some v)) H1 := by
  obtain ⟨G, env, R0, m⟩ := z
  refine ⟨G, env, R0, ?_⟩
  dsimp only at m
  cases q : ev env with
  | stuck => rw [q] at m; exact m.elim
  | exc x s => rw [q] at m; exact m.elim
  | ok r env1 =>
    rw [q, Res.bind_ok] at m
    intro v G' H' s rr _
    cases q1 : ownS r with
    | none => rw [q1] at m; exact m.elim
    | some sl =>
      rw [q1] at m
      cases q2 : setS env1 i sl with
      | none => rw [show (some sl).bind (fun s => setS env1 i s) = none from q2] at m; exact m.elim
      | some env2 =>
        rw [show (some sl).bind (fun s => setS env1 i s) = some env2 from q2] at m
        refine m _ G' H' (store_own s.s rr q1 q2 fun a _ z ⟨c, ec⟩ => ?_)
        subst ec
        exact fresh_fp R0 s rr z
/-- name = e by its plain rule, or as a comprehension -/
theorem s_asg1 {ev : En → Res En R} {i : Nat} {t0 : TE} (h : PS X st (tAsg t0 (gName i))) (ht : ∀ σ H Q, tX (gm X cl) ev σ H Q → t0 σ H fun v H' => Sz X.K H' → Q v H') :
    PS X st (tS (gm X cl) fun env => (ev env).frz.bind fun x env1 => match x with
      | .d x => (lift (bindS (.name i) x env1) env1).bind fun env2 _ => .ok .nx env2
      | .bor _ => .stuck) := ps_imp (ps_sz h) fun D σ H z => ht σ H _ (asg1_ev z)
theorem s_own {ev : En → Res En R} {i : Nat} {t0 : TE} (h : PS X st (tAsg t0 (gName i))) (ht : ∀ σ H Q, tX (gm X cl) ev σ H Q → t0 σ H fun v H' => Sz X.K H' → Q v H') :
    PS X st (tS (gm X cl) fun env => (ev env).bind fun x env1 => (lift ((ownS x).bind fun s => setS env1 i s) env1).bind fun env2 _ => .ok .nx env2) := ps_imp (ps_sz h) fun D σ H z => ht σ H _ (own_ev z)
theorem tX_mono {ev : En → Res En R} {σ : L2.St} {H : Hp} {Q Q' : VK} (h : tX (gm X cl) ev σ H Q) (i : ∀ v H', Q v H' → Q' v H') : tX (gm X cl) ev σ H Q' := by
  obtain ⟨G, env, R0, m⟩ := h
  refine ⟨G, env, R0, ?_⟩
  cases q : ev env with
  | stuck => rw [q] at m; exact m
  | exc x s => rw [q] at m; exact m
  | ok r env1 => rw [q] at m; exact fun v G' H' s rr z => i _ _ (m v G' H' s rr z)
theorem tX_sz {ev : En → Res En R} (σ : L2.St) (H : Hp) (Q : VK) (h : tX (gm X cl) ev σ H Q) : tX (gm X cl) ev σ H fun v H' => Sz X.K H' → Q v H' := tX_mono h fun _ _ q _ => q

/-! lists changed in place -/
theorem app_ev {ea : En → Res En W} {i : Nat} {σ : L2.St} {H : Hp} {D : Ends}
    (z : tS (gm X cl) (fun env => match cellAt env i with
      | some (.lst _) => (ea env).bind fun x env1 => (match x, cellAt env1 i with
        | .d x, some (.lst l) => if l.length < sizeLine then .ok .nx (putCell env1 i (.lst (l ++ [x]))) else .stuck
        | _, _ => .stuck)
      | _ => .stuck) D σ H) : tDrop (tBM X.K "list" rAppend (tVar i) (tCons (tW (gm X cl) ea) tNil)) D σ H := by
  obtain ⟨G, env, R0, m⟩ := z
  dsimp only at m
  cases qc : cellAt env i with
  | none => rw [qc] at m; exact m.elim
  | some c =>
    cases c with
    | dct l => rw [qc] at m; exact m.elim
    | lst l0 =>
      rw [qc] at m
      obtain ⟨s0, a, xs, e1, e2, e3, e4, e5⟩ := slot_lst R0 qc
      refine ⟨_, e3, .inl ⟨rfl, xs, .inl (.inl e4)⟩, G, env, R0, ?_⟩
      dsimp only at m
      cases q : ea env with
      | stuck => rw [q] at m; exact m.elim
      | exc x s => rw [q] at m; exact m.elim
      | ok x env1 =>
        rw [q, Res.bind_ok] at m
        intro v G' H' s w _
        cases x with
        | bor j => exact m.elim
        | d x =>
          cases qc2 : cellAt env1 i with
          | none => rw [qc2] at m; exact m.elim
          | some c =>
            cases c with
            | dct l => rw [qc2] at m; exact m.elim
            | lst l =>
              rw [qc2] at m
              dsimp only at m
              split at m
              · rename_i hl
                obtain ⟨s1, a1, xs1, f1, f2, f3, f4, f5⟩ := slot_lst s.rel qc2
                rw [e3] at f3
                cases f3
                exact ⟨a, xs1, v, rfl, rfl, f4, by rw [f5.length]; exact hl, m σ G' _ (s.trans (cell_step s.rel f1 f2 e3 (f5.append (.cons w .nil)))).s⟩
              · exact m.elim
theorem ext_ev {ea : En → Res En W} {i : Nat} {σ : L2.St} {H : Hp} {D : Ends}
    (z : tS (gm X cl) (fun env => match cellAt env i with
      | some (.lst _) => (ea env).bind fun x env1 => (match x, cellAt env1 i with
        | .d (.lst m), some (.lst l) => if l.length + m.length ≤ sizeLine then .ok .nx (putCell env1 i (.lst (l ++ m))) else .stuck
        | _, _ => .stuck)
      | _ => .stuck) D σ H) : tDrop (tBM X.K "list" rExtend (tVar i) (tCons (tW (gm X cl) ea) tNil)) D σ H := by
  obtain ⟨G, env, R0, m⟩ := z
  dsimp only at m
  cases qc : cellAt env i with
  | none => rw [qc] at m; exact m.elim
  | some c =>
    cases c with
    | dct l => rw [qc] at m; exact m.elim
    | lst l0 =>
      rw [qc] at m
      obtain ⟨s0, a, xs, e1, e2, e3, e4, e5⟩ := slot_lst R0 qc
      refine ⟨_, e3, .inl ⟨rfl, xs, .inl (.inl e4)⟩, G, env, R0, ?_⟩
      dsimp only at m
      cases q : ea env with
      | stuck => rw [q] at m; exact m.elim
      | exc x s => rw [q] at m; exact m.elim
      | ok x env1 =>
        rw [q, Res.bind_ok] at m
        intro v G' H' s w _
        cases x with
        | bor j => exact m.elim
        | d x =>
          cases qc2 : cellAt env1 i with
          | none => rw [qc2] at m; exfalso; revert m; cases x <;> exact id
          | some c =>
            cases c with
            | dct l => rw [qc2] at m; exfalso; revert m; cases x <;> exact id
            | lst l =>
              rw [qc2] at m
              cases x with
              | lst ys =>
                dsimp only at m
                split at m
                · rename_i hl
                  obtain ⟨s1, a1, xs1, f1, f2, f3, f4, f5⟩ := slot_lst s.rel qc2
                  rw [e3] at f3
                  cases f3
                  cases (show Rep _ G' v (.lst ys) from w) with
                  | lst hb rb =>
                    exact ⟨a, _, xs1, _, rfl, rfl, f4, s.rel.gh _ _ hb, by rw [f5.length, rb.length]; exact hl, m σ G' _ (s.trans (cell_step s.rel f1 f2 e3 (f5.append rb))).s⟩
                · exact m.elim
              | _ => exact m.elim
theorem s_app {o : Expr} {ea : En → Res En W} {i : Nat} {apos cpos : Pos} (ho : PE X o (tVar i)) (ha : PE X e (tW (gm X cl) ea))
    (hbase : attributeBase o "append" X.env (eval o X.env) = eval o X.env) (hst : starEach [e] X.env = [(false, eval e X.env)]) (hline : (apos.endLine == cpos.line) = true) :
    PS X (.Expr (.Call (.Attribute o "append" apos) [e] [] cpos) pos) (tS (gm X cl) fun env => match cellAt env i with
      | some (.lst _) => (ea env).bind fun x env1 => (match x, cellAt env1 i with
        | .d x, some (.lst l) => if l.length < sizeLine then .ok .nx (putCell env1 i (.lst (l ++ [x]))) else .stuck
        | _, _ => .stuck)
      | _ => .stuck) :=
  ps_imp (ps_expr (pe_bm F.plainAttrs_list F.slot_list_append F.type_list_append mt_append ho (pa_cons ha pa_nil hst) hbase (by rw [hst]; rfl) hline hst rfl) rfl) fun D σ H z => app_ev z
theorem s_ext {o : Expr} {ea : En → Res En W} {i : Nat} {apos cpos : Pos} (ho : PE X o (tVar i)) (ha : PE X e (tW (gm X cl) ea))
    (hbase : attributeBase o "extend" X.env (eval o X.env) = eval o X.env) (hst : starEach [e] X.env = [(false, eval e X.env)]) (hline : (apos.endLine == cpos.line) = true) :
    PS X (.Expr (.Call (.Attribute o "extend" apos) [e] [] cpos) pos) (tS (gm X cl) fun env => match cellAt env i with
      | some (.lst _) => (ea env).bind fun x env1 => (match x, cellAt env1 i with
        | .d (.lst m), some (.lst l) => if l.length + m.length ≤ sizeLine then .ok .nx (putCell env1 i (.lst (l ++ m))) else .stuck
        | _, _ => .stuck)
      | _ => .stuck) :=
  ps_imp (ps_expr (pe_bm F.plainAttrs_list F.slot_list_extend F.type_list_extend mt_extend ho (pa_cons ha pa_nil hst) hbase (by rw [hst]; rfl) hline hst rfl) rfl) fun D σ H z => ext_ev z
end
end Tk

set_option Elab.async false
set_option linter.all false
set_option maxRecDepth 100000
set_option maxHeartbeats 2000000
/-! Ir15: loops, pairs, items stored, pop. -/
namespace Tk
open PySem PySem.Spec L2
section
variable {X : Cx} {cl : Nat → Addr} {e tg : Expr} {pos : Pos} {st : Stmt} {rest : List Stmt}
/-! ### for -/
theorem for_ev {ei : En → Res En (List Tk.D)} {t : IT} {eb : En → Res En Fl} {σ : L2.St} {H : Hp} {D : Ends}
    (z : tS (gm X cl) (fun env => (ei env).bind fun items env1 => forGo t eb items env1) D σ H) : tFor (tI (gm X cl) ei) (tG (gm X cl) t) (tS (gm X cl) eb) D σ H := by
  obtain ⟨G, env, R0, m⟩ := z
  refine ⟨G, env, R0, ?_⟩
  dsimp only at m
  cases qi : ei env with
  | stuck => rw [qi] at m; exact m.elim
  | exc x s => rw [qi] at m; exact m.elim
  | ok items env1 =>
  rw [qi, Res.bind_ok] at m
  intro J G1 H1 s1 w hz
  refine ⟨fun i n σ' H' => n = items.length - i ∧ i ≤ items.length ∧ ∃ G' en, SStp (gm X cl) σ G H env σ' G' H' en ∧ Same G1 G' ∧ FlR (gm X cl) D σ G H env (forGo t eb (items.drop i) en), ⟨items.length, by simp, Nat.zero_le _, G1, env1, s1.s, .refl _, by simpa using m⟩, ?_⟩
  rintro i n σ' H' ⟨rfl, hile, G', en, st, ss, mm⟩
  by_cases hlt : i < items.length
  · refine .inr ⟨w.go i H' hlt (ss.trans st.rel.gh), _, fun σ' H' p => ⟨items.length - (i + 1), by omega, p⟩, fun xv H2 hy => ?_⟩
    obtain ⟨d, hd, ir⟩ := w.yld i H' xv H2 hlt (ss.trans st.rel.gh) hy
    obtain ⟨G2, R2, rx, k2, _⟩ := item_rel st.rel ss ir
    rw [List.drop_eq_getElem_cons hlt] at mm
    have ed : items[i] = d := by rw [List.getElem?_eq_getElem hlt] at hd; exact Option.some.inj hd
    rw [ed] at mm
    have mm : FlR (gm X cl) D σ G H env (match bindS t d en with
      | none => (.stuck : Res En Fl)
      | some env1 => (eb env1).bind fun fl env2 => match fl with
        | .nx => forGo t eb (items.drop (i + 1)) env2
        | .cnt => forGo t eb (items.drop (i + 1)) env2
        | .brk => .ok .nx env2
        | .ret v => .ok (.ret v) env2) := mm
    have st2 : SStp (gm X cl) σ G H env σ' G2 H2 en := st.trans ⟨R2, k2.mono fun _ z => z.elim, rfl, fun i c h => ⟨⟨c, h⟩, rfl⟩, fun i c h => ⟨c, h⟩, fun a f => .inl f⟩
    refine ⟨G2, en, d, R2, rx, ?_⟩
    cases qb : bindS t d en with
    | none => rw [qb] at mm; exact mm.elim
    | some en1 =>
    rw [qb] at mm
    rw [bindS_T qb]
    intro σ2 R3 hσ
    have st3 := bind_step st2 qb R3 hσ
    refine ⟨G2, en1, R3, ?_⟩
    dsimp only at mm
    cases qe : eb en1 with
    | stuck => rw [qe] at mm; exact mm.elim
    | exc x s => rw [qe] at mm; exact mm.elim
    | ok fl en2 =>
    rw [qe, Res.bind_ok] at mm
    have nxt : ∀ σ3 G3 H3, FlR (gm X cl) D σ G H env (forGo t eb (items.drop (i + 1)) en2) → SStp (gm X cl) σ2 G2 H2 en1 σ3 G3 H3 en2 →
        (items.length - (i + 1) = items.length - (i + 1) ∧ i + 1 ≤ items.length ∧ ∃ G' en, SStp (gm X cl) σ G H env σ3 G' H3 en ∧ Same G1 G' ∧ FlR (gm X cl) D σ G H env (forGo t eb (items.drop (i + 1)) en)) := fun σ3 G3 H3 m3 s3 =>
      ⟨rfl, hlt, G3, en2, st3.trans s3, ss.trans (k2.ss.trans s3.keep.ss), m3⟩
    cases fl with
    | nx => exact fun σ3 G3 H3 s3 => nxt σ3 G3 H3 mm s3
    | cnt => exact fun σ3 G3 H3 s3 => nxt σ3 G3 H3 mm s3
    | brk => exact fun σ3 G3 H3 s3 => mm σ3 G3 H3 (st3.trans s3)
    | ret v => exact fun σ3 G3 H3 u s3 rr => mm σ3 G3 H3 u (st3.trans s3) (rr.back st3.keep.up)
  · have e : i = items.length := by omega
    subst e
    rw [List.drop_length] at mm
    exact .inl ⟨w.stop H' (ss.trans st.rel.gh), mm σ' G' H' st⟩
theorem s_for {iter : Expr} {body : List Stmt} {ei : En → Res En (List Tk.D)} {t : IT} {eb : En → Res En Fl} (hp : PassesOwn (model X.prog X.w) X.A X.env X.xe) (hc : X.calm = true) (hi : PI X tg iter (tI (gm X cl) ei)) (hg : PG X tg (tG (gm X cl) t)) (hb : PSs X body (tS (gm X cl) eb))
    (hs : ∀ x, foldedSetIterable iter X.env x = pure x) : PS X (.For tg iter body [] pos) (tS (gm X cl) fun env => (ei env).bind fun items env1 => forGo t eb items env1) :=
  ps_imp (ps_for hp hc hi hg hb hs) fun D σ H z => for_ev z
/-! ### while -/
theorem while_ev {ec : En → Res En Bool} {n : Nat} {eb : En → Res En Fl} {σ : L2.St} {H : Hp} {D : Ends}
    (z : tS (gm X cl) (fun env => whGo ec eb n env) D σ H) : tWhile (tT (gm X cl) ec) (tS (gm X cl) eb) D σ H := by
  obtain ⟨G, env, R0, m⟩ := z
  refine ⟨fun k σ' H' => ∃ G' en, SStp (gm X cl) σ G H env σ' G' H' en ∧ FlR (gm X cl) D σ G H env (whGo ec eb k en), ⟨n, G, env, .refl R0, m⟩, ?_⟩
  rintro k σ' H' ⟨G', en, st, mm⟩
  cases k with
  | zero => exact mm.elim
  | succ k =>
  refine ⟨G', en, st.rel, ?_⟩
  have mm : FlR (gm X cl) D σ G H env ((ec en).bind fun b env1 => if b = true then (eb env1).bind fun fl env2 => match fl with
      | .nx => whGo ec eb k env2
      | .cnt => whGo ec eb k env2
      | .brk => .ok .nx env2
      | .ret v => .ok (.ret v) env2
    else .ok .nx env1) := mm
  cases qc : ec en with
  | stuck => rw [qc] at mm; exact mm.elim
  | exc x s => rw [qc] at mm; exact mm.elim
  | ok b en1 =>
  rw [qc, Res.bind_ok] at mm
  intro G1 H1 s1 _
  have st1 := st.trans s1.s
  cases b with
  | false =>
    rw [if_neg Bool.false_ne_true] at mm ⊢
    exact mm σ' G1 H1 st1
  | true =>
    rw [if_pos rfl] at mm ⊢
    refine ⟨fun σ3 H3 => ∃ G' en, SStp (gm X cl) σ G H env σ3 G' H3 en ∧ FlR (gm X cl) D σ G H env (whGo ec eb k en), fun σ3 H3 p => ⟨k, Nat.lt_succ_self k, p⟩, G1, en1, s1.rel, ?_⟩
    cases qe : eb en1 with
    | stuck => rw [qe] at mm; exact mm.elim
    | exc x s => rw [qe] at mm; exact mm.elim
    | ok fl en2 =>
    rw [qe, Res.bind_ok] at mm
    cases fl with
    | nx => exact fun σ3 G3 H3 s3 => ⟨G3, en2, st1.trans s3, mm⟩
    | cnt => exact fun σ3 G3 H3 s3 => ⟨G3, en2, st1.trans s3, mm⟩
    | brk => exact fun σ3 G3 H3 s3 => mm σ3 G3 H3 (st1.trans s3)
    | ret v => exact fun σ3 G3 H3 u s3 rr => mm σ3 G3 H3 u (st1.trans s3) (rr.back st1.keep.up)
theorem s_while {c : Expr} {body : List Stmt} {ec : En → Res En Bool} {n : Nat} {eb : En → Res En Fl} (hp : PassesOwn (model X.prog X.w) X.A X.env X.xe) (hc : PT X c (tT (gm X cl) ec)) (hb : PSs X body (tS (gm X cl) eb)) :
    PS X (.While c body [] pos) (tS (gm X cl) fun env => whGo ec eb n env) := ps_imp (ps_while hp hc hb) fun D σ H z => while_ev z
/-! ### a list's item stored -/
theorem seti_ev {ea : En → Res En W} {ek : En → Res En Tk.D} {i : Nat} {σ : L2.St} {H : Hp} {D : Ends}
    (z : tS (gm X cl) (fun env => (ea env).bind fun x env1 => match x, cellAt env1 i with
      | .d x, some (.lst _) => (ek env1).bind fun n env2 => (match n, cellAt env2 i with
        | .int n, some (.lst l) => (match ixN l.length n with
          | some j => .ok .nx (putCell env2 i (.lst (l.set j x)))
          | none => .stuck)
        | _, _ => .stuck)
      | _, _ => .stuck) D σ H) : tAsg (tW (gm X cl) ea) (gSub (tVar i) (tV (gm X cl) ek) rSetL) D σ H := by
  obtain ⟨G, env, R0, m⟩ := z
  refine ⟨G, env, R0, ?_⟩
  dsimp only at m
  cases qa : ea env with
  | stuck => rw [qa] at m; exact m.elim
  | exc x s => rw [qa] at m; exact m.elim
  | ok x env1 =>
  rw [qa, Res.bind_ok] at m
  intro v G1 H1 s1 w1 _
  cases x with
  | bor j => exact m.elim
  | d x =>
  cases qc0 : cellAt env1 i with
  | none => rw [qc0] at m; exact m.elim
  | some c0 =>
  rw [qc0] at m
  cases c0 with
  | dct l => exact m.elim
  | lst l0 =>
  obtain ⟨s0, a, xs0, g1, g2, ea, g4, g5⟩ := slot_lst s1.rel qc0
  dsimp only at m
  refine ⟨_, ea, G1, env1, s1.rel, ?_⟩
  cases qk : ek env1 with
  | stuck => rw [qk] at m; exact m.elim
  | exc x s => rw [qk] at m; exact m.elim
  | ok n env2 =>
  rw [qk, Res.bind_ok] at m
  cases n with
  | int n =>
    cases qc : cellAt env2 i with
    | none => rw [qc] at m; exact m.elim
    | some c =>
    rw [qc] at m
    cases c with
    | dct l => exact m.elim
    | lst l =>
    dsimp only at m
    cases qx : ixN l.length n with
    | none => rw [qx] at m; exact m.elim
    | some j =>
    rw [qx] at m
    intro k G2 H2 s3 t3 _
    obtain ⟨s4, a4, xs, f1, f2, f3, f4, f5⟩ := slot_lst s3.rel qc
    rw [ea] at f3
    cases f3
    exact ⟨a, xs, n, j, rfl, top_int t3, f4, by rw [f5.length]; exact qx, m σ G2 _ ((s1.trans s3).trans (cell_step s3.rel f1 f2 ea (f5.set (Rep.mono s3.keep.ss _ _ w1) j))).s⟩
  | _ => exact m.elim
theorem sub_sole {o i e : Expr} {p : Pos} {l : Nat} {env : Env} : swapsWithSole [.Subscript o i p] e l env = pure false := by
  show swapsWith e (some (.Subscript o i p)) l env = pure false
  unfold swapsWith
  cases e <;> rfl
theorem sub_none {o i e : Expr} {p : Pos} {env : Env} : swappedStores [.Subscript o i p] e env = pure none := by
  unfold swappedStores
  cases e <;> rfl
theorem s_seti {o k : Expr} {p : Pos} {ea : En → Res En W} {ek : En → Res En Tk.D} {i : Nat} (ho : PE X o (tVar i)) (hk : PE X k (tV (gm X cl) ek)) (ha : PE X e (tW (gm X cl) ea))
    (hsub : ∀ v, assign (.Subscript o k p) X.env v = (do
      let ov ← holding [v] (eval o X.env)
      let iv ← holding [v, ov] (eval k X.env)
      standAt p
      holding [v, ov, iv] (setItem ov iv v)
      release [v, ov, iv] [])) : PS X (.Assign [.Subscript o k p] e pos) (tS (gm X cl) fun env => (ea env).bind fun x env1 => match x, cellAt env1 i with
      | .d x, some (.lst _) => (ek env1).bind fun n env2 => (match n, cellAt env2 i with
        | .int n, some (.lst l) => (match ixN l.length n with
          | some j => .ok .nx (putCell env2 i (.lst (l.set j x)))
          | none => .stuck)
        | _, _ => .stuck)
      | _, _ => .stuck) :=
  ps_imp (ps_asg ha (pg_sub ho hk set_list hsub) sub_sole sub_none rfl) fun D σ H z => seti_ev z
/-! ### pop -/
theorem pop_ev {i : Nat} {σ : L2.St} {H : Hp} {Q : VK}
    (z : tX (gm X cl) (fun env => match cellAt env i with
      | some (.lst l) => (match l.getLast? with
        | some x => .ok (.d x) (putCell env i (.lst l.dropLast))
        | none => .stuck)
      | _ => .stuck) σ H Q) : tBM0 X.K "list" rPop (tVar i) σ H (fun v H' => Sz X.K H' → Q v H') := by
  obtain ⟨G, env, R0, m⟩ := z
  dsimp only at m
  cases qc : cellAt env i with
  | none => rw [qc] at m; exact m.elim
  | some c =>
  rw [qc] at m
  cases c with
  | dct l => exact m.elim
  | lst l =>
  obtain ⟨s, a, xs, e1, e2, e3, e4, e5⟩ := slot_lst R0 qc
  dsimp only at m
  cases ql : l.getLast? with
  | none => rw [ql] at m; exact m.elim
  | some x =>
  rw [ql] at m
  have hx : l[l.length - 1]? = some x := by rw [← ql, List.getLast?_eq_getElem?]
  obtain ⟨v, h1, h2⟩ := e5.getD hx
  refine ⟨_, e3, .inl ⟨rfl, xs, .inl (.inl e4)⟩, a, xs, v, rfl, rfl, e4, by rw [e5.length]; exact h1, fun sz => m v G _ (cell_step R0 e1 e2 e3 e5.dropLast) h2 sz⟩
theorem popAt_ev {ek : En → Res En Tk.D} {i : Nat} {σ : L2.St} {H : Hp} {Q : VK}
    (z : tX (gm X cl) (fun env => match cellAt env i with
      | some (.lst _) => (ek env).bind fun x env1 => (match cellAt env1 i, x with
        | some (.lst l), .int k => if -(2 ^ 63) ≤ k ∧ k < 2 ^ 63 then (match seqIndex? k l.length with
          | some n => (match l[n]? with
            | some x => .ok (.d x) (putCell env1 i (.lst (l.eraseIdx n)))
            | none => .stuck)
          | none => .stuck) else .stuck
        | _, _ => .stuck)
      | _ => .stuck) σ H Q) : tBM X.K "list" rPopAt (tVar i) (tCons (tV (gm X cl) ek) tNil) σ H (fun v H' => Sz X.K H' → Q v H') := by
  obtain ⟨G, env, R0, m⟩ := z
  dsimp only at m
  cases qc0 : cellAt env i with
  | none => rw [qc0] at m; exact m.elim
  | some c =>
  rw [qc0] at m
  cases c with
  | dct l => exact m.elim
  | lst l0 =>
  obtain ⟨s0, a, xs0, g1, g2, e3, g4, g5⟩ := slot_lst R0 qc0
  dsimp only at m
  refine ⟨_, e3, .inl ⟨rfl, xs0, .inl (.inl g4)⟩, G, env, R0, ?_⟩
  cases qk : ek env with
  | stuck => rw [qk] at m; exact m.elim
  | exc x s => rw [qk] at m; exact m.elim
  | ok x env1 =>
  rw [qk, Res.bind_ok] at m
  intro kv G1 H1 s1 t1 _
  cases qc : cellAt env1 i with
  | none => rw [qc] at m; exact m.elim
  | some c =>
  rw [qc] at m
  cases c with
  | dct l => cases x <;> exact m.elim
  | lst l =>
  cases x with
  | int k =>
    dsimp only at m
    obtain ⟨s, a', xs, e1, e2, e3', e4, e5⟩ := slot_lst s1.rel qc
    rw [e3] at e3'
    cases e3'
    by_cases hk : -(2 ^ 63) ≤ k ∧ k < 2 ^ 63
    · rw [if_pos hk] at m
      cases qs : seqIndex? k l.length with
      | none => rw [qs] at m; exact m.elim
      | some n =>
      rw [qs] at m
      dsimp only at m
      cases qn : l[n]? with
      | none => rw [qn] at m; exact m.elim
      | some y =>
      rw [qn] at m
      obtain ⟨v, h1, h2⟩ := e5.getD qn
      exact ⟨a, xs, k, n, v, rfl, by rw [top_int t1], e4, hk.1, hk.2, by rw [e5.length]; exact qs, h1, fun sz => m v G1 _ (s1.trans (cell_step s1.rel e1 e2 e3 (e5.eraseIdx n))) h2 sz⟩
    · rw [if_neg hk] at m
      exact m.elim
  | _ => exact m.elim
theorem s_pop {o : Expr} {i : Nat} {apos cpos : Pos} (ho : PE X o (tVar i)) (hbase : attributeBase o "pop" X.env (eval o X.env) = eval o X.env) (hline : (apos.endLine == cpos.line) = true) :
    PE X (.Call (.Attribute o "pop" apos) [] [] cpos) (tX (gm X cl) fun env => match cellAt env i with
      | some (.lst l) => (match l.getLast? with
        | some x => .ok (.d x) (putCell env i (.lst l.dropLast))
        | none => .stuck)
      | _ => .stuck) :=
  pe_imp (pe_sz (pe_bm0 F.plainAttrs_list F.slot_list_pop F.type_list_pop mt_pop ho hbase hline)) fun σ H Q z => pop_ev z
theorem s_popAt {o k : Expr} {ek : En → Res En Tk.D} {i : Nat} {apos cpos : Pos} (ho : PE X o (tVar i)) (hk : PE X k (tV (gm X cl) ek))
    (hbase : attributeBase o "pop" X.env (eval o X.env) = eval o X.env) (hst : starEach [k] X.env = [(false, eval k X.env)]) (hline : (apos.endLine == cpos.line) = true) :
    PE X (.Call (.Attribute o "pop" apos) [k] [] cpos) (tX (gm X cl) fun env => match cellAt env i with
      | some (.lst _) => (ek env).bind fun x env1 => (match cellAt env1 i, x with
        | some (.lst l), .int k => if -(2 ^ 63) ≤ k ∧ k < 2 ^ 63 then (match seqIndex? k l.length with
          | some n => (match l[n]? with
            | some x => .ok (.d x) (putCell env1 i (.lst (l.eraseIdx n)))
            | none => .stuck)
          | none => .stuck) else .stuck
        | _, _ => .stuck)
      | _ => .stuck) :=
  pe_imp (pe_sz (pe_bm F.plainAttrs_list F.slot_list_pop F.type_list_pop mt_popAt ho (pa_cons hk pa_nil hst) hbase (by rw [hst]; rfl) hline hst rfl)) fun σ H Q z => popAt_ev z
/-! ### a, b = x, y -/
theorem rr_keep {Γ : Gm} {G H G1 H1 G2 H2 : Hp} {σ : L2.St} {env env1 env2 : En} {v : V} {r : R} (R0 : Rel Γ G H σ env) (s1 : Stp Γ σ G H env G1 H1 env1) (s2 : Stp Γ σ G1 H1 env1 G2 H2 env2) (h : RR Γ H G1 H1 σ v r) : RR Γ H G2 H2 σ v r := by
  cases r with
  | d x => exact Rep.mono s2.keep.ss _ _ h
  | bor i => exact h
  | own c =>
    refine ⟨Cel.keep h.1 s2.keep.ss (fun a e => ?_) fun a o e q => s2.keep.fr a o q (fresh_fp R0 s1 h e), h.2⟩
    obtain ⟨a', ea', g, hc⟩ := h.1
    rw [e] at ea'
    cases ea'
    cases q : G2 a with
    | none => rfl
    | some o =>
      rcases s2.keep.nw a (by rw [q]; exact fun z => nomatch z) with z | z | z
      · exact absurd g z
      · exfalso
        cases c with
        | lst l => obtain ⟨xs, e, _⟩ := hc; rw [e] at z; cases z
        | dct l => obtain ⟨_, _, _, _, e, _⟩ := hc; rw [e] at z; cases z
      · exact absurd z (fresh_fp R0 s1 h e)
theorem pair_ev {ea eb : En → Res En R} {i j : Nat} {σ : L2.St} {H : Hp} {D : Ends} (hij : i ≠ j)
    (z : tS (gm X cl) (fun env => (ea env).bind fun x env1 => (eb env1).bind fun y env2 =>
      (lift ((ownS x).bind fun s => (ownS y).bind fun u => (setS env2 i s).bind fun env3 => setS env3 j u) env2).bind fun env3 _ => .ok .nx env3) D σ H) :
    tPar i j (tCons (tX (gm X cl) ea) (tCons (tX (gm X cl) eb) tNil)) D σ H := by
  obtain ⟨G, env, R0, m⟩ := z
  refine ⟨G, env, R0, ?_⟩
  dsimp only at m
  cases qa : ea env with
  | stuck => rw [qa] at m; exact m.elim
  | exc x s => rw [qa] at m; exact m.elim
  | ok x env1 =>
  rw [qa, Res.bind_ok] at m
  intro v G1 H1 s1 r1 _
  refine ⟨G1, env1, s1.rel, ?_⟩
  cases qb : eb env1 with
  | stuck => rw [qb] at m; exact m.elim
  | exc x s => rw [qb] at m; exact m.elim
  | ok y env2 =>
  rw [qb, Res.bind_ok] at m
  intro w G2 H2 s2 r2 _
  refine ⟨v, w, rfl, ?_⟩
  have r1' := rr_keep R0 s1 s2 r1
  cases q1 : ownS x with
  | none => rw [q1] at m; exact m.elim
  | some sx =>
  cases q2 : ownS y with
  | none => rw [q1, q2] at m; exact m.elim
  | some sy =>
  have m : FlR (gm X cl) D σ G H env ((lift ((setS env2 i sx).bind fun env3 => setS env3 j sy) env2).bind fun env3 _ => .ok .nx env3) := by rw [q1, q2] at m; exact m
  cases q3 : setS env2 i sx with
  | none => rw [q3] at m; exact m.elim
  | some env3 =>
  cases q4 : setS env3 j sy with
  | none => rw [q3, show (some env3).bind (fun env3 => setS env3 j sy) = none from q4] at m; exact m.elim
  | some env4 =>
  rw [q3, show (some env3).bind (fun env3 => setS env3 j sy) = some env4 from q4] at m
  have st12 := s1.trans s2
  have f1 : ∀ c a, x = .own c → v = .ref a → ¬ Fp σ env2 a := fun c a e1 e2 => by
    subst e1
    exact fresh_fp R0 st12 r1' e2
  have st3 := store_own st12.s r1' q1 q3 fun a _ e2 ⟨c, e1⟩ => f1 c a e1 e2
  have r3 : RR (gm X cl) H G2 H2 (σ.set i (some v)) w y := by
    have r3 := r2.back s1.keep.up
    cases y with
    | d y => exact r3
    | own c => exact r3
    | bor l => cases q2
  refine m _ G2 H2 (store_own st3 r3 q2 q4 fun a _ e2 ⟨c, e1⟩ f => ?_)
  subst e1
  obtain ⟨k, s, c', h1, h2, h3⟩ := f
  obtain ⟨rfl, hl, hn⟩ := setS_some q3
  rw [get_set] at h1 h3
  have hw : H1 a = none := r2.2 a e2
  by_cases hk : i = k
  · rw [if_pos hk, if_pos (show i < σ.length by rw [st12.rel.len]; exact hl)] at h3
    rw [if_pos hk, if_pos hl] at h1
    cases h1
    injection h3 with h3; injection h3 with h3
    -- the first's own thing stood ahead of the second
    cases x with
    | bor l => cases q1
    | d x => cases q1; cases h2
    | own cx =>
      obtain ⟨a1, ea1, _, hc⟩ := r1.1
      rw [h3] at ea1
      cases ea1
      cases cx with
      | lst l => obtain ⟨xs, e, _⟩ := hc; rw [hw] at e; cases e
      | dct l => obtain ⟨_, _, _, _, e, _⟩ := hc; rw [hw] at e; cases e
  · rw [if_neg hk] at h1 h3
    exact fresh_fp s1.rel s2 r2 e2 ⟨k, s, c', h1, h2, h3⟩
theorem s_pair {i j : Nat} {x y : Str} {a b : Expr} {px py pt pt2 : Pos} {kt k2 : Nat} {ea eb : En → Res En R} (hc : X.calm = true) (hN : X.N.Nodup) (hi : X.N[i]? = some x) (hj : X.N[j]? = some y) (hij : i ≠ j)
    (hx : X.env.scope.names.lookup x = some .local) (hy : X.env.scope.names.lookup y = some .local) (ha : PE X a (tX (gm X cl) ea)) (hb : PE X b (tX (gm X cl) eb))
    (hst1 : starEach [a, b] X.env = (false, eval a X.env) :: starEach [b] X.env) (hst2 : starEach [b] X.env = [(false, eval b X.env)])
    (hw : swappedStores [.Tuple [.Name x px, .Name y py] kt pt] (.Tuple [a, b] k2 pt2) X.env = pure (some [x, y])) :
    PS X (.Assign [.Tuple [.Name x px, .Name y py] kt pt] (.Tuple [a, b] k2 pt2) pos) (tS (gm X cl) fun env => (ea env).bind fun x env1 => (eb env1).bind fun y env2 =>
      (lift ((ownS x).bind fun s => (ownS y).bind fun u => (setS env2 i s).bind fun env3 => setS env3 j u) env2).bind fun env3 _ => .ok .nx env3) :=
  ps_imp (ps_par hc hN hi hj hij hx hy (pa_cons ha (pa_cons hb pa_nil hst2) hst1) hw rfl) fun D σ H z => pair_ev hij z
end
end Tk

set_option Elab.async false
set_option linter.all false
set_option maxRecDepth 100000
set_option maxHeartbeats 2000000
/-! Ir16: a def keeps its promise. -/
namespace Tk
open PySem PySem.Spec L2

theorem fill_outs : ∀ (args : List S) (env : En), args.length ≤ env.length → (∀ (j : Nat) (c : C), args[j]? = some (.io c) → ∃ c', env[j]? = some (some (.io c'))) →
    (∀ (j : Nat) (c' : C), env[j]? = some (some (.io c')) → ∃ c, args[j]? = some (.io c)) →
    (fill args (outsOf env)).length = args.length ∧ ∀ (j : Nat) (s : S), (fill args (outsOf env))[j]? = some s →
      (∃ c c', args[j]? = some (.io c) ∧ s = .io c' ∧ env[j]? = some (some (.io c'))) ∨ ((∀ c, s ≠ .io c) ∧ args[j]? = some s)
  | [], env, _, _, _ => ⟨rfl, fun j s h => by simp [fill] at h⟩
  | a :: r, [], h, _, _ => by simp at h
  | a :: r, e :: es, hl, h1, h2 => by
    have ih := fill_outs r es (by simpa using hl) (fun j c h => by simpa using h1 (j + 1) c (by simpa using h)) (fun j c h => by simpa using h2 (j + 1) c (by simpa using h))
    have non : (∀ c, a ≠ .io c) → (fill (a :: r) (outsOf (e :: es))) = a :: fill r (outsOf es) := fun ha => by
      have he : outsOf (e :: es) = outsOf es := by
        cases e with
        | none => rfl
        | some s =>
          cases s with
          | d x => rfl
          | own c => rfl
          | io c =>
            obtain ⟨c', q⟩ := h2 0 c rfl
            have q : a = .io c' := by simpa using q
            exact absurd q (ha c')
      rw [he]
      cases a with
      | d x => simp [fill]
      | own c => simp [fill]
      | io c => exact absurd rfl (ha c)
    have rest : ∀ (b : S) (j : Nat) (s : S), (b :: fill r (outsOf es))[j + 1]? = some s → (∃ c c', (a :: r)[j + 1]? = some (.io c) ∧ s = .io c' ∧ (e :: es)[j + 1]? = some (some (.io c'))) ∨ ((∀ c, s ≠ .io c) ∧ (a :: r)[j + 1]? = some s) :=
      fun b j s h => by simpa using ih.2 j s (by simpa using h)
    cases a with
    | io c =>
      obtain ⟨c', q⟩ := h1 0 c rfl
      have q : e = some (.io c') := by simpa using q
      subst q
      have he : fill (S.io c :: r) (outsOf (some (S.io c') :: es)) = .io c' :: fill r (outsOf es) := rfl
      rw [he]
      refine ⟨by simp [ih.1], fun j s h => ?_⟩
      cases j with
      | zero =>
        have h : S.io c' = s := by simpa using h
        subst h
        exact .inl ⟨c, c', rfl, rfl, rfl⟩
      | succ j => exact rest _ j s h
    | d x =>
      rw [non (fun c z => nomatch z)]
      refine ⟨by simp [ih.1], fun j s h => ?_⟩
      cases j with
      | zero =>
        have h : S.d x = s := by simpa using h
        subst h
        exact .inr ⟨(fun c z => nomatch z), rfl⟩
      | succ j => exact rest _ j s h
    | own x =>
      rw [non (fun c z => nomatch z)]
      refine ⟨by simp [ih.1], fun j s h => ?_⟩
      cases j with
      | zero =>
        have h : S.own x = s := by simpa using h
        subst h
        exact .inr ⟨(fun c z => nomatch z), rfl⟩
      | succ j => exact rest _ j s h

section
variable {Γ : Gm} {G H G' H' : Hp} {N : List Str} {vs : List V} {args : List S}
theorem start_get {i : Nat} : (L2.start N vs)[i]? = if i < vs.length then (vs[i]?).map some else if i < N.length then some none else none := by
  unfold L2.start
  by_cases h : i < vs.length
  · rw [if_pos h, List.getElem?_append_left (by simpa using h), List.getElem?_map]
  · rw [if_neg h, List.getElem?_append_right (by simpa using h), List.getElem?_replicate, List.length_map]
    by_cases h2 : i < N.length
    · rw [if_pos h2, if_pos (by omega)]
    · rw [if_neg h2, if_neg (by omega)]
def env0 (n : Nat) (args : List S) : En := args.map some ++ List.replicate (n - args.length) none
theorem env0_get {n i : Nat} {s : S} (h : (env0 n args)[i]? = some (some s)) : args[i]? = some s := by
  unfold env0 at h
  by_cases hi : i < args.length
  · rw [List.getElem?_append_left (by simpa using hi), List.getElem?_map] at h
    cases q : args[i]? with
    | none => rw [q] at h; cases h
    | some a => rw [q] at h; cases h; rfl
  · rw [List.getElem?_append_right (by simpa using hi), List.getElem?_replicate] at h
    split at h <;> cases h
theorem env0_of {n i : Nat} {s : S} (h : args[i]? = some s) : (env0 n args)[i]? = some (some s) := by
  unfold env0
  rw [List.getElem?_append_left (by simpa using (List.getElem?_eq_some_iff.mp h).1), List.getElem?_map, h]
  rfl
theorem ens_get {i : Nat} {s : S} (h : (ens args)[i]? = some (some s)) : args[i]? = some s := by
  unfold ens at h
  rw [List.getElem?_map] at h
  cases q : args[i]? with
  | none => rw [q] at h; cases h
  | some a => rw [q] at h; cases h; rfl
theorem ens_of {i : Nat} {s : S} (h : args[i]? = some s) : (ens args)[i]? = some (some s) := by
  unfold ens
  rw [List.getElem?_map, h]
  rfl
theorem sls_start {i : Nat} (h : i < vs.length) : (sls vs)[i]? = (L2.start N vs)[i]? := by
  rw [start_get, if_pos h]
  unfold sls
  rw [List.getElem?_map]
theorem rel_len (R0 : Rel Γ G H (sls vs) (ens args)) : vs.length = args.length := by
  have := R0.len
  simpa [sls, ens] using this
/-- the body's slots at its entry -/
theorem rel_start (R0 : Rel Γ G H (sls vs) (ens args)) (hl : args.length ≤ N.length) : Rel Γ G H (L2.start N vs) (env0 N.length args) where
  len := by
    have := rel_len R0
    simp [L2.start, env0]
    omega
  gh := R0.gh
  slot := fun i s h => by
    have h := env0_get h
    have hi : i < vs.length := by rw [rel_len R0]; exact (List.getElem?_eq_some_iff.mp h).1
    rw [← sls_start hi]
    exact R0.slot i s (ens_of h)
  sep := fun i j s s' c c' h1 h2 h3 h4 h5 => by
    have h1 := env0_get h1
    have h3 := env0_get h3
    have hi : i < vs.length := by rw [rel_len R0]; exact (List.getElem?_eq_some_iff.mp h1).1
    have hj : j < vs.length := by rw [rel_len R0]; exact (List.getElem?_eq_some_iff.mp h3).1
    rw [← sls_start hi, ← sls_start hj] at h5
    exact R0.sep i j s s' c c' (ens_of h1) h2 (ens_of h3) h4 h5
theorem fp_start (R0 : Rel Γ G H (sls vs) (ens args)) {a : Addr} (f : Fp (L2.start N vs) (env0 N.length args) a) : Fp (sls vs) (ens args) a := by
  obtain ⟨i, s, c, h1, h2, h3⟩ := f
  have h1 := env0_get h1
  have hi : i < vs.length := by rw [rel_len R0]; exact (List.getElem?_eq_some_iff.mp h1).1
  exact ⟨i, s, c, ens_of h1, h2, by rw [sls_start hi]; exact h3⟩
/-- what the caller meets again -/
theorem rel_end {σ' : L2.St} {env' : En} (R0 : Rel Γ G H (sls vs) (ens args)) (no : noOwn args) (hl : args.length ≤ N.length) (st : SStp Γ (L2.start N vs) G H (env0 N.length args) σ' G' H' env') : Rel Γ G' H' (sls vs) (ens (fill args (outsOf env'))) := by
  have hel : args.length ≤ env'.length := by rw [st.len]; simp [env0]
  have io1 : ∀ (j : Nat) (c : C), args[j]? = some (.io c) → (∃ c', env'[j]? = some (some (.io c'))) ∧ σ'[j]? = (sls vs)[j]? := fun j c h => by
    obtain ⟨q1, q2⟩ := st.io j c (env0_of h)
    exact ⟨q1, by rw [q2, sls_start (by rw [rel_len R0]; exact (List.getElem?_eq_some_iff.mp h).1)]⟩
  obtain ⟨f1, f2⟩ := fill_outs args env' hel (fun j c h => (io1 j c h).1) fun j c h => let ⟨c', q⟩ := st.io' j c h; ⟨c', env0_get q⟩
  have cel : ∀ (j : Nat) (s : S) (c : C), (ens (fill args (outsOf env')))[j]? = some (some s) → s.cell = some c → ∃ c0, args[j]? = some (.io c0) ∧ s = .io c ∧ env'[j]? = some (some (.io c)) ∧ σ'[j]? = (sls vs)[j]? := fun j s c h hc => by
    rcases f2 j s (ens_get h) with ⟨c0, c', q1, q2, q3⟩ | ⟨q1, q2⟩
    · subst q2
      cases hc
      exact ⟨c0, q1, rfl, q3, (io1 j c0 q1).2⟩
    · cases s with
      | d x => cases hc
      | io c2 => exact absurd rfl (q1 c2)
      | own c2 => exact absurd (List.mem_of_getElem? q2) (no c2)
  refine ⟨?_, st.rel.gh, fun j s h => ?_, fun i j s s' c c' h1 h2 h3 h4 h5 => ?_⟩
  · have := rel_len R0
    simp [sls, ens, f1, this]
  · rcases f2 j s (ens_get h) with ⟨c0, c', q1, q2, q3⟩ | ⟨q1, q2⟩
    · subst q2
      obtain ⟨v, r1, r2⟩ := st.rel.slot j _ q3
      exact ⟨v, by rw [← (io1 j c0 q1).2]; exact r1, r2⟩
    · obtain ⟨v, r1, r2⟩ := R0.slot j s (ens_of q2)
      refine ⟨v, r1, ?_⟩
      cases s with
      | d x => exact Rep.mono st.keep.ss _ _ r2
      | io c2 => exact absurd rfl (q1 c2)
      | own c2 => exact absurd (List.mem_of_getElem? q2) (no c2)
  · obtain ⟨c0, a1, rfl, a3, a4⟩ := cel i s c h1 h2
    obtain ⟨c1, b1, rfl, b3, b4⟩ := cel j s' c' h3 h4
    exact st.rel.sep i j _ _ c c' a3 rfl b3 rfl (by rw [a4, b4]; exact h5)
end

/-- THE RULE of a def -/
theorem fn_ok {P : Program} {w : World} {K : PySem.W.Frag} {mg : Str → Option Value} {base : Heap} {cl : Nat → Addr} {k : Nat} {f : Addr} {name qual : Str} {params : Arguments} {body : List Stmt} {scope : Scope} {dV kV doc pm cdv ct oc : Value} {an od : Option Addr}
    {osl : Array (Option Value)} {N ps : List Str} {F : FE} {ib : ISs} (lk : K.lookup f = some ⟨oc, od, .func (PySem.W.fnOf name qual params body scope dV kV doc pm an cdv ct), osl⟩) (hcd : PySem.W.codeIn K cdv qual = true) (Sc : FnScope N ps scope)
    (hb : ∀ X : Cx, X.prog = P → X.w = w → X.K = K → X.mg = mg → X.base = base → X.N = N → X.env.scope = scope → X.calm = true → X.fn = (fun _ => true) → Room k X.A → PassesOwn (model X.prog X.w) X.A X.env X.xe → PSs X body (tS (gm X cl) (evSs F ib))) :
    FnOk P w K mg base CX0 (k + 1) f (PySem.W.fnOf name qual params body scope dV kV doc pm an cdv ct) ps (spOf ⟨P, w, K, mg, base, cl⟩ (runF F ps.length N.length ib)) := by
  have hpl : ps.length ≤ N.length := by have := congrArg List.length Sc.pre; rw [List.length_take] at this; omega
  have lenA : ∀ vs H Q E, spOf ⟨P, w, K, mg, base, cl⟩ (runF F ps.length N.length ib) vs H Q E → vs.length = ps.length := fun vs H Q E ⟨G, args, R0, _, m⟩ => by
    unfold runF at m
    by_cases h : args.length = ps.length
    · rw [rel_len R0]; exact h
    · rw [if_neg h] at m; exact m.elim
  refine fn_of lk hcd Sc lenA fun A outer s H vs Q E hr hsp => ⟨_, hb _ rfl rfl rfl rfl rfl rfl rfl rfl rfl hr (passes_of rfl), ?_⟩
  have hlen := lenA vs H Q E hsp
  obtain ⟨G, args, R0, no, m⟩ := hsp
  have ha : args.length = ps.length := by rw [← rel_len R0]; exact hlen
  have hl : args.length ≤ N.length := by omega
  refine ⟨G, env0 N.length args, rel_start R0 hl, ?_⟩
  unfold runF at m
  rw [if_pos ha] at m
  have e0 : args.map some ++ List.replicate (N.length - ps.length) none = env0 N.length args := by unfold env0; rw [ha]
  rw [e0] at m
  have kp : ∀ {σ' G' H' env'}, SStp ⟨P, w, K, mg, base, cl⟩ (L2.start N vs) G H (env0 N.length args) σ' G' H' env' → Keep G H (Fp (sls vs) (ens args)) G' H' := fun st => st.keep.mono fun a f => fp_start R0 f
  show FlR _ _ _ G H _ (evSs F ib (env0 N.length args))
  cases q : evSs F ib (env0 N.length args) with
  | stuck => rw [q] at m; exact m.elim
  | exc x s => rw [q] at m; exact m.elim
  | ok fl env' =>
    cases fl with
    | brk => rw [q] at m; exact m.elim
    | cnt => rw [q] at m; exact m.elim
    | nx =>
      rw [q] at m
      exact fun σ' G' H' st => m .non G' H' (rel_end R0 no hl st) Rep.non (kp st)
    | ret r =>
      rw [q] at m
      dsimp only at m
      cases q2 : retS env' r with
      | none => rw [q2] at m; exact m.elim
      | some sv =>
        rw [q2] at m
        intro σ' G' H' v st rr
        refine m v G' H' (rel_end R0 no hl st) ?_ (kp st)
        cases r with
        | d x => cases q2; exact rr
        | own c => cases q2; exact rr
        | bor i =>
          have rr : σ'[i]? = some (some v) := rr
          have q2 : (match env'[i]? with
            | some (some (.own c)) => some (S.own c)
            | some (some (.d x)) => some (S.d x)
            | _ => none) = some sv := q2
          cases q3 : env'[i]? with
          | none => rw [q3] at q2; cases q2
          | some o =>
            cases o with
            | none => rw [q3] at q2; cases q2
            | some s =>
              rw [q3] at q2
              obtain ⟨u, r1, r2⟩ := st.rel.slot i s q3
              rw [rr] at r1
              cases r1
              cases s with
              | io c => cases q2
              | d x => cases q2; exact r2
              | own c =>
                cases q2
                refine ⟨r2, fun a e => ?_⟩
                subst e
                rcases st.fp a ⟨i, _, c, q3, rfl, rr⟩ with f | z
                · exfalso
                  obtain ⟨j, s, c', h1, h2, h3⟩ := f
                  have h1' := env0_get h1
                  cases s with
                  | d x => cases h2
                  | own c2 => exact no c2 (List.mem_of_getElem? h1')
                  | io c2 =>
                    obtain ⟨⟨c3, g1⟩, g2⟩ := st.io j c2 h1
                    have : i = j := st.rel.sep i j _ _ c c3 q3 rfl g1 rfl (by rw [rr, g2, h3])
                    subst this
                    rw [q3] at g1
                    cases g1
                · exact z
end Tk

set_option Elab.async false
set_option linter.all false
set_option maxRecDepth 100000
set_option maxHeartbeats 2000000
/-! Ir17: dicts whose keys are tuples. -/
namespace Tk
open PySem PySem.Spec L2

section
variable {X : Cx} {cl : Nat → Addr} {pins : List (Addr × Obj)} {σ : L2.St} {H : Hp} {s : Shared}
mutual
theorem rep_nested (I : Inv X pins σ H s) : ∀ (x : D) (v : V) (u : Value) (nk : NestedKey), keyD x = some nk → Rep (gm X cl) H v x → RelV v u → NestedIs s.heap nk u
  | .non, v, u, nk, e, h, r => by
    have e : some NestedKey.none = some nk := e
    cases e; cases h
    obtain rfl : u = Value.none := r
    exact .none
  | .bl b, v, u, nk, e, h, r => by
    have e : some (NestedKey.num (if b then 1 else 0)) = some nk := e
    cases e; cases h
    obtain rfl : u = Value.bool b := r
    exact .bool rfl
  | .int i, v, u, nk, e, h, r => by
    have e : some (NestedKey.num i) = some nk := e
    cases e; cases h
    obtain ⟨t, rfl⟩ := r
    exact .int i t
  | .str z, v, u, nk, e, h, r => by
    have e : some (NestedKey.text z) = some nk := e
    cases e; cases h
    obtain ⟨t, rfl⟩ := r
    exact .text z t
  | .tup l, v, u, nk, e, h, r => by
    obtain ⟨ks, e1, rfl⟩ := Option.map_eq_some_iff.mp (show (keyD.keysD l).map NestedKey.tup = some nk from e)
    cases h with
    | tup h1 h2 =>
      obtain rfl : u = Value.ref _ := r
      obtain ⟨its, rv, ⟨o, ho, hc, n, hd⟩, _⟩ := I.tuple h1
      exact .tup ho hc hd (by simpa using reps_nested I l _ _ ks e1 h2 rv)
  | .lst l, _, _, _, e, _, _ => by cases e
  | .dct l, _, _, _, e, _, _ => by cases e
  | .ins c fs, _, _, _, e, _, _ => by cases e
  | .scr l, _, _, _, e, _, _ => by cases e
theorem reps_nested (I : Inv X pins σ H s) : ∀ (l : List D) (vs : List V) (us : List Value) (ks : List NestedKey), keyD.keysD l = some ks → RepAll (gm X cl) H vs l → Vals vs us → NestedAll s.heap ks us
  | [], vs, us, ks, e, h, r => by
    have e : some [] = some ks := e
    cases e; cases h; cases r
    exact .nil
  | d :: l, vs, us, ks, e, h, r => by
    simp only [keyD.keysD] at e
    cases q1 : keyD d with
    | none => rw [q1] at e; cases e
    | some k =>
      cases q2 : keyD.keysD l with
      | none => rw [q1, q2] at e; cases e
      | some ks' =>
        rw [q1, q2] at e
        cases e
        cases h with
        | cons h1 h2 =>
          cases r with
          | cons r1 r2 => exact .cons (rep_nested I d _ _ k q1 h1 r1) (reps_nested I l _ _ ks' q2 h2 r2)
end
end
/-- the entries as the library's rules read them -/
inductive KX (Γ : Gm) (G : Hp) : List (NestedKey × Addr × Value) → List (D × D) → Prop
  | nil : KX Γ G [] []
  | cons {nk : NestedKey} {a : Addr} {u : Value} {x z : D} {v : V} {xs : List (NestedKey × Addr × Value)} {kvs : List (D × D)} : keyD x = some nk → x.isTup = true → nk.depth ≤ 8 → Rep Γ G (.ref a) x → RelV v u → Rep Γ G v z → KX Γ G xs kvs → KX Γ G ((nk, a, u) :: xs) ((x, z) :: kvs)
section
variable {Γ : Gm} {G : Hp}
theorem tup_ref {v : V} {x : D} (h : Rep Γ G v x) (t : x.isTup = true) : ∃ a, v = .ref a := by
  cases h with
  | tup h1 h2 => exact ⟨_, rfl⟩
  | _ => cases t
theorem kx_of : ∀ {es : List DictEntry} {kvs : List (D × D)} {ks vs : List V}, es.map (·.hash) = kvs.map (fun p => hashD Γ.w p.1) → (∀ p ∈ kvs, ∃ k, keyD p.1 = some k ∧ k.depth ≤ 8) → (∀ p ∈ kvs, p.1.isTup = true) →
    Vals ks (es.map (·.key)) → Vals vs (es.map (·.val)) → RepAll Γ G ks (kvs.map (·.1)) → RepAll Γ G vs (kvs.map (·.2)) → ∃ xs, KX Γ G xs kvs ∧ es = xs.map (entryOfKey (nestedKind Γ.P Γ.w))
  | [], [], _, _, _, _, _, _, _, _, _ => ⟨[], .nil, rfl⟩
  | [], _ :: _, _, _, h, _, _, _, _, _, _ => by simp at h
  | _ :: _, [], _, _, h, _, _, _, _, _, _ => by simp at h
  | e :: es, (x, z) :: kvs, ks, vs, hh, hk, ht, k1, k2, r1, r2 => by
    simp only [List.map_cons] at hh k1 k2 r1 r2
    cases r1 with
    | cons a1 a2 =>
      cases r2 with
      | cons b1 b2 =>
        cases k1 with
        | cons c1 c2 =>
          cases k2 with
          | cons d1 d2 =>
            obtain ⟨xs, q1, q2⟩ := kx_of (List.cons.inj hh).2 (fun p hp => hk p (List.mem_cons_of_mem _ hp)) (fun p hp => ht p (List.mem_cons_of_mem _ hp)) c2 d2 a2 b2
            obtain ⟨nk, e1, e2⟩ := hk (x, z) List.mem_cons_self
            have tx := ht (x, z) List.mem_cons_self
            obtain ⟨a, rfl⟩ := tup_ref a1 tx
            have ek : e.key = Value.ref a := c1
            refine ⟨(nk, a, e.val) :: xs, .cons e1 tx e2 a1 d1 b1 q1, ?_⟩
            rw [List.map_cons, ← q2]
            congr 1
            have eh : e.hash = nk.hash Γ.w := by
              rw [(List.cons.inj hh).1]
              show hashD Γ.w x = _
              unfold hashD
              rw [e1]
              rfl
            cases e
            simp only at ek eh
            subst ek; subst eh
            rfl
theorem KX.mono {G' : Hp} (ss : Same G G') : ∀ {xs : List (NestedKey × Addr × Value)} {kvs : List (D × D)}, KX Γ G xs kvs → KX Γ G' xs kvs
  | _, _, .nil => .nil
  | _, _, .cons a b c d e f t => .cons a b c (Rep.mono ss _ _ d) e (Rep.mono ss _ _ f) (KX.mono ss t)
theorem KX.keys : ∀ {xs : List (NestedKey × Addr × Value)} {kvs : List (D × D)}, KX Γ G xs kvs → kvs.map (fun p => keyD p.1) = xs.map fun x => some x.1
  | _, _, .nil => rfl
  | _, _, .cons a _ _ _ _ _ t => by simp [a, KX.keys t]
theorem KX.nodup {xs : List (NestedKey × Addr × Value)} {kvs : List (D × D)} (h : KX Γ G xs kvs) : (kvs.map fun p => keyD p.1).Nodup ↔ (xs.map (·.1)).Nodup := by
  rw [h.keys]
  simp [List.Nodup, List.pairwise_map]
theorem KX.length : ∀ {xs : List (NestedKey × Addr × Value)} {kvs : List (D × D)}, KX Γ G xs kvs → xs.length = kvs.length
  | _, _, .nil => rfl
  | _, _, .cons _ _ _ _ _ _ t => by simp [KX.length t]
theorem KX.any {k : NestedKey} : ∀ {xs : List (NestedKey × Addr × Value)} {kvs : List (D × D)}, KX Γ G xs kvs → (atKey xs k).isSome = kvs.any fun p => decide (keyD p.1 = some k)
  | _, _, .nil => rfl
  | (nk, a, u) :: xs, (x, z) :: kvs, .cons e _ _ _ _ _ t => by
    have ih := KX.any (k := k) t
    unfold atKey at ih ⊢
    rw [List.any_cons, List.find?_cons]
    by_cases h : nk = k
    · subst h
      simp [e]
    · have h2 : ¬ (keyD x = some k) := by rw [e]; exact fun z => h (Option.some.inj z)
      rw [decide_eq_false h, decide_eq_false h2]
      exact ih
theorem KX.map {k : NestedKey} {u : Value} {v : V} {z : D} (rv : RelV v u) (rz : Rep Γ G v z) : ∀ {xs : List (NestedKey × Addr × Value)} {kvs : List (D × D)}, KX Γ G xs kvs → KX Γ G (xs.map (putAt k u)) (kvs.map fun p => if keyD p.1 = some k then (p.1, z) else p)
  | _, _, .nil => .nil
  | (nk, a, u') :: xs, (x, z') :: kvs, .cons e f g h i j t => by
    rw [List.map_cons, List.map_cons]
    unfold putAt
    by_cases hk : nk = k
    · subst hk
      rw [if_pos rfl, if_pos e]
      exact .cons e f g h rv rz (KX.map rv rz t)
    · rw [if_neg hk, if_neg (by rw [e]; exact fun z => hk (Option.some.inj z))]
      exact .cons e f g h i j (KX.map rv rz t)
theorem KX.snoc {nk : NestedKey} {a : Addr} {u : Value} {x z : D} {v : V} (e : keyD x = some nk) (f : x.isTup = true) (g : nk.depth ≤ 8) (h : Rep Γ G (.ref a) x) (i : RelV v u) (j : Rep Γ G v z) :
    ∀ {xs : List (NestedKey × Addr × Value)} {kvs : List (D × D)}, KX Γ G xs kvs → KX Γ G (xs ++ [(nk, a, u)]) (kvs ++ [(x, z)])
  | _, _, .nil => .cons e f g h i j .nil
  | _, _, .cons e' f' g' h' i' j' t => .cons e' f' g' h' i' j' (KX.snoc e f g h i j t)
theorem KX.put {nk : NestedKey} {a : Addr} {u : Value} {x z : D} {v : V} (e : keyD x = some nk) (f : x.isTup = true) (g : nk.depth ≤ 8) (h : Rep Γ G (.ref a) x) (i : RelV v u) (j : Rep Γ G v z)
    {xs : List (NestedKey × Addr × Value)} {kvs : List (D × D)} (t : KX Γ G xs kvs) : KX Γ G (storedH xs nk a u) (putD nk x z kvs) := by
  unfold storedH putD
  rw [← t.any (k := nk)]
  by_cases hs : (atKey xs nk).isSome = true
  · rw [if_pos hs, if_pos hs]; exact t.map i j
  · rw [if_neg hs, if_neg hs]; exact t.snoc e f g h i j
theorem KX.parts : ∀ {xs : List (NestedKey × Addr × Value)} {kvs : List (D × D)}, KX Γ G xs kvs → (xs.map (entryOfKey (nestedKind Γ.P Γ.w))).map (·.hash) = kvs.map (fun p => hashD Γ.w p.1) ∧ (∀ p ∈ kvs, ∃ k, keyD p.1 = some k ∧ k.depth ≤ 8) ∧ (∀ p ∈ kvs, p.1.isTup = true) ∧
    ∃ ks vs, Vals ks ((xs.map (entryOfKey (nestedKind Γ.P Γ.w))).map (·.key)) ∧ Vals vs ((xs.map (entryOfKey (nestedKind Γ.P Γ.w))).map (·.val)) ∧ RepAll Γ G ks (kvs.map (·.1)) ∧ RepAll Γ G vs (kvs.map (·.2))
  | _, _, .nil => ⟨rfl, fun p h => by simp at h, fun p h => by simp at h, [], [], .nil, .nil, .nil, .nil⟩
  | (nk, a, u) :: xs, (x, z) :: kvs, .cons e f g h i j t => by
    obtain ⟨h1, h2, h3, ks, vs, h4, h5, h6, h7⟩ := KX.parts t
    refine ⟨?_, ?_, ?_, .ref a :: ks, _ :: vs, .cons rfl h4, .cons i h5, .cons h h6, .cons j h7⟩
    · rw [List.map_cons, List.map_cons, List.map_cons, h1]
      congr 1
      show nk.hash Γ.w = hashD Γ.w x
      unfold hashD
      rw [e]
      rfl
    · intro p hp
      rcases List.mem_cons.mp hp with rfl | hp
      · exact ⟨nk, e, g⟩
      · exact h2 p hp
    · intro p hp
      rcases List.mem_cons.mp hp with rfl | hp
      · exact f
      · exact h3 p hp
theorem KX.has : ∀ {xs : List (NestedKey × Addr × Value)} {kvs : List (D × D)} {x : NestedKey × Addr × Value}, KX Γ G xs kvs → x ∈ xs → ∃ d, keyD d = some x.1 ∧ x.1.depth ≤ 8 ∧ Rep Γ G (.ref x.2.1) d
  | _, _, _, .nil, h => by simp at h
  | (nk, a, u) :: xs, (x, z) :: kvs, y, .cons e f g h i j t, hy => by
    rcases List.mem_cons.mp hy with rfl | hy
    · exact ⟨x, e, g, h⟩
    · exact KX.has t hy
end
section
variable {X : Cx} {cl : Nat → Addr} {pins : List (Addr × Obj)} {σ : L2.St} {H G : Hp} {s : Shared}
/-- the dict as the library reads it -/
theorem kx_at (I : Inv X pins σ H s) (gh : Same G H) {D : Addr} {es : Array DictEntry} {ep : Nat} {kvs : List (Tk.D × Tk.D)} {ks vs : List V} (hD : H D = some (dO D es ep)) (ok : DOk X.w es kvs) (ht : ∀ p ∈ kvs, p.1.isTup = true)
    (k1 : Vals ks (es.toList.map (·.key))) (k2 : Vals vs (es.toList.map (·.val))) (r1 : RepAll (gm X cl) G ks (kvs.map (·.1))) (r2 : RepAll (gm X cl) G vs (kvs.map (·.2))) :
    ∃ xs, KX (gm X cl) G xs kvs ∧ s.heap.DictOfH (nestedKind X.prog X.w) D xs ∧ (D == sysModules) = false ∧ kvs.length = es.size := by
  obtain ⟨xs, hx, he⟩ := kx_of (Γ := gm X cl) ok.hash ok.key ht k1 k2 r1 r2
  obtain ⟨⟨⟨o, ho, hc, hd⟩, hs, hz⟩, _⟩ := (show ObjOk X.prog X.w H s.heap D (dO D es ep) from I.hok D _ hD)
  refine ⟨xs, hx, ⟨o, es, ep, ho, hc, hd, he, fun x hm => ?_, hx.nodup.mp ok.nd⟩, hs, by rw [← hx.length, size_of_entries he]⟩
  obtain ⟨d, e1, e2, e3⟩ := hx.has hm
  exact ⟨rep_nested I d _ _ _ e1 (Rep.mono gh _ _ e3) rfl, e2⟩
/-- d[k] = v -/
theorem kd_set {E : Value → Shared → Prop} {Q : Unit → Shared → Prop} (hu : X.A.units + 8 < cLine) (I : Inv X pins σ H s) (gh : Same G H) {D : Addr} {es : Array DictEntry} {ep : Nat} {kvs : List (Tk.D × Tk.D)} {ks vs : List V} (hD : H D = some (dO D es ep)) (ok : DOk X.w es kvs) (ht : ∀ p ∈ kvs, p.1.isTup = true)
    (k1 : Vals ks (es.toList.map (·.key))) (k2 : Vals vs (es.toList.map (·.val))) (r1 : RepAll (gm X cl) G ks (kvs.map (·.1))) (r2 : RepAll (gm X cl) G vs (kvs.map (·.2))) {y z : Tk.D} {nk : NestedKey} {vk vz : V} {uk uz : Value}
    (ey : keyD y = some nk) (ty : y.isTup = true) (dy : nk.depth ≤ 8) (ry : Rep (gm X cl) G vk y) (lk : RelV vk uk) (rz : Rep (gm X cl) G vz z) (lz : RelV vz uz) (hz : kvs.length < sizeLine)
    (h : ∀ s' es' ep' ks' vs', Inv X pins σ (upd H D (dO D es' ep')) s' → DOk X.w es' (putD nk y z kvs) → (∀ p ∈ putD nk y z kvs, p.1.isTup = true) → Vals ks' (es'.toList.map (·.key)) → Vals vs' (es'.toList.map (·.val)) →
      RepAll (gm X cl) G ks' ((putD nk y z kvs).map (·.1)) → RepAll (gm X cl) G vs' ((putD nk y z kvs).map (·.2)) → Q () s') : wpAny (model X.prog X.w) X.A (dictSet D uk uz) Q E s := by
  obtain ⟨xs, hx, dd, hs, hl⟩ := kx_at I gh hD ok ht k1 k2 r1 r2
  obtain ⟨a, rfl⟩ := tup_ref ry ty
  obtain rfl : uk = Value.ref a := lk
  have hlx : xs.length = kvs.length := hx.length
  refine wpAny_dictSet_heap (knd := nestedKind X.prog X.w) (k := nk) hu ⟨rep_nested I y _ _ _ ey (Rep.mono gh _ _ ry) rfl, dy⟩ dd (fun h' dd' sb => ?_) (by omega)
  have hx' := hx.put ey ty dy ry lz rz
  obtain ⟨o, es', ep', ho, hc, hd, he, his, hn⟩ := dd'
  obtain ⟨q1, q2, q3, ks', vs', q4, q5, q6, q7⟩ := hx'.parts
  rw [← he] at q1 q4 q5
  have hlen : (putD nk y z kvs).length ≤ sizeLine := by
    unfold putD
    split
    · rw [List.length_map]; omega
    · rw [List.length_append, List.length_singleton]; omega
  have hsz : es'.size = (putD nk y z kvs).length := by rw [← hx'.length, size_of_entries he]
  refine h _ es' ep' ks' vs' (d_write (ob := dO D es' ep') I (by rw [hD]; exact True.intro) sb ⟨o, ho⟩ ⟨⟨⟨o, ho, hc, hd⟩, hs, by omega⟩, ⟨o, ho⟩, fun h1 h2 ⟨p1, p2, p3⟩ k => ⟨p1.at k, p2, p3⟩⟩) ⟨q1, q2, hx'.nodup.mpr hn, .inl q3⟩ q3 q4 q5 q6 q7
end
end Tk

set_option Elab.async false
set_option linter.all false
set_option maxRecDepth 100000
set_option maxHeartbeats 2000000
/-! Ir18: dict comprehensions. -/
namespace Tk
open PySem PySem.Spec PyProof.Rows
open L2 hiding St
abbrev St := L2.St

section
variable {X : Cx} {cl : Nat → Addr} {tg e : Expr} {pos : Pos}
/-- a key with its value goes into the dict at A -/
def DPutD (Γ : Gm) (A : Addr) (vk vz : V) (H : Hp) (Nx : Hp → Prop) : Prop := ∃ (G : Hp) (es : Array DictEntry) (ep : Nat) (ks vs : List V) (kvs : List (Tk.D × Tk.D)) (y z : Tk.D) (nk : NestedKey), Same G H ∧ H A = some (dO A es ep) ∧ DOk Γ.w es kvs ∧
  (∀ p ∈ kvs, p.1.isTup = true) ∧ Vals ks (es.toList.map (·.key)) ∧ Vals vs (es.toList.map (·.val)) ∧ RepAll Γ G ks (kvs.map (·.1)) ∧ RepAll Γ G vs (kvs.map (·.2)) ∧ keyD y = some nk ∧ y.isTup = true ∧ nk.depth ≤ 8 ∧ Rep Γ G vk y ∧ Rep Γ G vz z ∧ kvs.length < sizeLine ∧
  ∀ es' ep' ks' vs', DOk Γ.w es' (putD nk y z kvs) → (∀ p ∈ putD nk y z kvs, p.1.isTup = true) → Vals ks' (es'.toList.map (·.key)) → Vals vs' (es'.toList.map (·.val)) → RepAll Γ G ks' ((putD nk y z kvs).map (·.1)) → RepAll Γ G vs' ((putD nk y z kvs).map (·.2)) → Nx (upd H A (dO A es' ep'))
def tDcD (Γ : Gm) (wi : TI) (g : TG) (tt : TT) (tk tv : TE) (vs : List Nat) : TE := fun σ H Q => wi σ H fun J H1 => ∀ A, H1 A = none →
  ∃ W : Nat → Nat → Hp → Prop, (∃ m, W 0 m (upd H1 A (dO A #[] 0))) ∧ ∀ i m H, W i m H → (J.stop i H ∧ Q (.ref A) H) ∨
    (J.go i H ∧ ∃ Nx : Hp → Prop, (∀ H', Nx H' → ∃ m', m' < m ∧ W (i + 1) m' H') ∧
      ∀ x H', J.yld i H x H' → g x (wipe σ vs) H' fun σ2 H2 => wipe σ2 vs = wipe σ vs ∧ tt σ2 H2 fun b H3 => if b = true then tk σ2 H3 fun y H4 => tv σ2 H4 fun z H5 => DPutD Γ A y z H5 Nx else Nx H3)
theorem dO_empty {P : Program} {w : World} {H : Hp} {h : Heap} (hb : sysModules < h.objs.size) : ObjOk P w H (h.push { cls := .type "dict", data := .dict #[] }) h.objs.size (dO h.objs.size #[] 0) := by
  have e : (h.push { cls := .type "dict", data := .dict #[] }).get? h.objs.size = some { cls := .type "dict", data := .dict #[] } := Heap.get?_push_size _ rfl
  exact ⟨⟨⟨_, e, ⟨rfl, rfl, rfl⟩, rfl⟩, beq_eq_false_iff_ne.mpr (Ne.symm (Nat.ne_of_lt hb)), Nat.zero_le _⟩, ⟨_, e⟩, fun h1 h2 ⟨p1, p2, p3⟩ k => ⟨p1.at k, p2, p3⟩⟩
theorem dcd_core {pins : List (Addr × Obj)} {s : Shared} {σ : St} {H : Hp} {Q : VK} {kx vx tg iter : Expr} {ifs : List Expr} {scope : Scope} {own : List (Str × Nat)} {pos ps2 : Pos} {wi : TI} {g : TG} {tt : TT} {tk tv : TE} {use : Option (Value → Sem Unit)} {Pf : Value → Shared → Prop}
    (hu : X.A.units + 8 < cLine) (hc : X.calm = true) (hN : X.N.Nodup) (I : Inv X pins σ H s) (hi : PI X tg iter wi) (ok : BlkOk X.N X.env.scope scope own)
    (hg : ∀ (s : Shared) (H : Hp) (C : Addr) (cs : List (Str × Addr)) (fp : List Addr), PG (X.blk s H scope (compEnvC scope cs C X.env) fp) tg g) (ht : ∀ (s : Shared) (H : Hp) (C : Addr) (cs : List (Str × Addr)) (fp : List Addr), PTs (X.blk s H scope (compEnvC scope cs C X.env) fp) ifs tt)
    (hk : ∀ (s : Shared) (H : Hp) (C : Addr) (cs : List (Str × Addr)) (fp : List Addr), PE (X.blk s H scope (compEnvC scope cs C X.env) fp) kx tk)
    (he : ∀ (s : Shared) (H : Hp) (C : Addr) (cs : List (Str × Addr)) (fp : List Addr), PE (X.blk s H scope (compEnvC scope cs C X.env) fp) vx tv) (hs : ∀ x, foldedSetIterable iter X.env x = pure x)
    (h : tDcD (gm X cl) wi g tt tk tv (own.map (·.2)) σ H Q)
    (hEnd : ∀ D C u' m H', Inv X pins σ H' u' → Q (.ref D) H' → u'.heap.Ns C m → FpOk X pins H' C → compPost (model X.prog X.w) X.A X.xe use Pf (.ref D) C (.ok .next) u') :
    wpAny (model X.prog X.w) X.A (comprehension (.DictComp kx vx [⟨tg, iter, ifs, 0⟩] scope pos) scope X.env ps2 newDict false (eval iter X.env) use) Pf X.xe s := by
  have hfr : ∀ y ∈ scope.names, y.2 = .free → ∃ c, X.env.cells.lookup y.1 = some c := fun y hy e => by
    rcases ok.free y hy e with k | k
    · exact I.ok.has _ (.inl k)
    · exact I.ok.has _ (.inr k)
  refine wpAny_comprehension_free (use := use) rfl hs (closure_ok hfr) ok.kind (fun y hy e => by rw [ok.uniq y hy, e])
    (thn (hi.run pins s σ H _ I h) fun xv s1 hx => thn hx fun itv u2 h2 => ?_)
  obtain ⟨it, fp, tn, J, K2, e, J2, T, w2, g2, q⟩ := h2
  subst e
  refine wpAny_newObj_type (newEnv_comp ?_)
  generalize hD : u2.heap.objs.size = D
  have hA0 : K2 D = none := J2.hok.fresh (Nat.le_of_eq hD)
  obtain ⟨W, ⟨m0, v0⟩, turn⟩ := q D hA0
  -- the new list
  generalize hu3 : ({ u2 with heap := u2.heap.push { cls := .type "dict", data := .dict #[] } } : Shared) = u3
  have J3 : Inv X pins σ (upd K2 D (dO D #[] 0)) u3 := by
    rw [← hu3]
    refine J2.laid (t' := u2.toks) (fun b o e => Heap.get?_push_of_some _ e) (Nat.le_of_eq hD) ?_
    rw [← hD]
    exact dO_empty J2.big
  have h3 : u3.heap = u2.heap.push { cls := .type "dict", data := .dict #[] } := by rw [← hu3]
  have lts : ∀ b ∈ fp, b < u2.heap.objs.size := fun b hb => by
    obtain ⟨o, e, _⟩ := T.obj _ _ w2 b hb
    exact Heap.lt_size e
  have g3 : ∀ b ∈ fp, FpOk X pins (upd K2 D (dO D #[] 0)) b ∧ b < u3.heap.objs.size := fun b hb => by
    have hlt := lts b hb
    refine ⟨⟨?_, (g2 b hb).2⟩, by rw [h3, Heap.size_push]; exact Nat.lt_succ_of_lt hlt⟩
    rw [upd_ne (by rw [← hD]; exact Nat.ne_of_lt hlt)]
    exact (g2 b hb).1
  have w3 : tn 0 u3.heap := T.keep _ _ _ w2 fun b _ o e => by rw [h3]; exact Heap.get?_push_of_some _ e
  have J4 := block_start J3 ok hN g3
  have pg := hg u3 (upd K2 D (dO D #[] 0)) u3.heap.objs.size (cellsFrom (u3.heap.objs.size + 1) scope.names (cloFrom X.env.cells scope.names [])) fp
  have pt := ht u3 (upd K2 D (dO D #[] 0)) u3.heap.objs.size (cellsFrom (u3.heap.objs.size + 1) scope.names (cloFrom X.env.cells scope.names [])) fp
  have pk := hk u3 (upd K2 D (dO D #[] 0)) u3.heap.objs.size (cellsFrom (u3.heap.objs.size + 1) scope.names (cloFrom X.env.cells scope.names [])) fp
  have pe := he u3 (upd K2 D (dO D #[] 0)) u3.heap.objs.size (cellsFrom (u3.heap.objs.size + 1) scope.names (cloFrom X.env.cells scope.names [])) fp
  show codeAny _ _ (.compStart (.DictComp kx vx [⟨tg, iter, ifs, 0⟩] scope pos) 0 (.ref it) (.ref D) (compEnvC scope (cellsFrom (u3.heap.objs.size + 1) scope.names (cloFrom X.env.cells scope.names [])) u3.heap.objs.size X.env)) (compPost (model X.prog X.w) X.A X.xe use Pf (.ref D) u3.heap.objs.size) { u3 with heap := pushCells (u3.heap.push { cls := .type "dict", data := .dict #[] }) scope.names }
  have nf0 : ∀ b ∈ fp, (upd K2 D (dO D #[] 0)) b = none := fun b hb => (g3 b hb).1.1
  generalize hcv : compEnvC scope (cellsFrom (u3.heap.objs.size + 1) scope.names (cloFrom X.env.cells scope.names [])) u3.heap.objs.size X.env = cv at J4 pg pt pk pe ⊢
  have cl0 : cv.locals = u3.heap.objs.size := by subst hcv; rfl
  generalize hK3 : upd K2 D (dO D #[] 0) = K3 at J3 J4 pg pt pk pe v0 nf0 g3
  generalize hu4 : ({ u3 with heap := pushCells (u3.heap.push { cls := .type "dict", data := .dict #[] }) scope.names } : Shared) = u4 at J4 ⊢
  have w4 : tn 0 u4.heap := T.keep _ _ _ w3 fun b _ o e => by rw [← hu4]; exact pushCells_keeps _ _ _ _ (Heap.get?_push_of_some _ e)
  have sta : ∀ {σ' : St} {H' : Hp} {u' : Shared}, Inv (X.blk u3 K3 scope cv fp) [] σ' H' u' → (∀ b ∈ fp, H' b = none) → ∀ b ∈ fp, FpOk (X.blk u3 K3 scope cv fp) [] H' b := fun {σ' H' u'} J' hn b hb =>
    ⟨hn b hb, (J'.ok.exf b hb).1, J'.ok.exfs b hb, .inl hb, fun x c e => (J'.ok.exf b hb).2 x c e, fun p hp => absurd (show p ∈ ([] : List (Addr × Obj)) ++ [] from hp) (by simp)⟩
  have lp : codeAny (model X.prog X.w) X.A (.compLoop (.DictComp kx vx [⟨tg, iter, ifs, 0⟩] scope pos) 0 (.ref it) (.ref D) cv) (compPost (model X.prog X.w) X.A X.xe use Pf (.ref D) u3.heap.objs.size) u4 := by
    refine compLoop_anyD (fun n u' => ∃ i H', Inv (X.blk u3 K3 scope cv fp) [] (wipe σ (own.map (·.2))) H' u' ∧ tn i u'.heap ∧ (∀ b ∈ fp, H' b = none) ∧ W i n H') ?_ m0 ⟨0, K3, J4, w4, nf0, v0⟩
    rintro n u5 ⟨i, K5, J5, w5, n5, x5⟩
    rcases turn i n K5 x5 with ⟨stop, qq⟩ | ⟨go, Nx, hNx, step⟩
    · have td := T.done (X.blk u3 K3 scope cv fp) rfl rfl rfl hc i [] u5 _ K5 (fun _ _ => False) J5 (sta J5 n5) w5 stop
      refine thnF td fun r u6 ⟨hr, J6⟩ => ?_
      subst hr
      -- back in the def's context
      have J7 : Inv X pins σ K5 u6 := J3.call' (ch := fp) J6.os J6.base J6.hok J6.bare fun b hb => ⟨(g3 b hb).1.2.2.2.1, (g3 b hb).1.2.1, (g3 b hb).1.2.2.2.2.1, (g3 b hb).1.2.2.2.2.2⟩
      have nC : K5 u3.heap.objs.size = none := by
        have z : K5 cv.locals = none := J6.free
        rw [cl0] at z
        exact z
      obtain ⟨m, hn, _⟩ := J6.loc
      have hn : u6.heap.Ns cv.locals m := hn
      rw [cl0] at hn
      exact hEnd D u3.heap.objs.size u6 m K5 J7 qq hn (J3.fpOk (Nat.le_refl _) nC)
    · have ti := T.item (X.blk u3 K3 scope cv fp) rfl rfl rfl hc i [] u5 _ K5 (fun _ _ => False) J5 (sta J5 n5) w5 go
      refine thnF ti fun r u6 ⟨u, hr, h6⟩ => ?_
      subst hr
      refine thnF h6 fun _ u7 ⟨x, K7, J7, r7, y7, w7, n7⟩ => ?_
      have I7' := J7.pinned (sta J7 n7) (T.obj _ _ w7)
      refine thnF (pg.run _ u7 _ K7 x u _ I7' r7 (step x K7 y7)) fun _ u8 ⟨σ8, K8, J8, hw8, q8⟩ => ?_
      refine thnF (pt.run _ u8 σ8 K8 _ J8 q8) fun b u9 ⟨K9, J9, q9⟩ => ?_
      -- the turn's end
      have fi0 : ∀ {u' : Shared} {H' : Hp}, Inv (X.blk u3 K3 scope cv fp) ([] ++ pinsAt fp u7.heap) σ8 H' u' → Nx H' → ∃ m, m < n ∧ ∃ i H', Inv (X.blk u3 K3 scope cv fp) [] (wipe σ (own.map (·.2))) H' u' ∧ tn i u'.heap ∧ (∀ b ∈ fp, H' b = none) ∧ W i m H' := fun {u' H'} J' nx => by
        obtain ⟨n', hm, w'⟩ := hNx H' nx
        have pin' : ∀ b ∈ fp, ∀ o, u7.heap.get? b = some o → u'.heap.get? b = some o ∧ H' b = none := fun b hb o e =>
          let z := J'.pin (b, o) (List.mem_append_right _ (List.mem_append_right _ (mem_pinsAt hb e)))
          ⟨z.1, z.2.1⟩
        have hl : (wipe σ (own.map (·.2))).length = σ8.length := by rw [← hw8, wipe_length]
        refine ⟨n', hm, i + 1, H', (J'.unpinned (pins := [])).weak hl (fun j v e => ?_), T.keep _ _ _ w7 fun b hb o e => (pin' b hb o e).1, fun b hb => ?_, w'⟩
        · rw [← hw8] at e
          exact (wipe_some e).1
        · obtain ⟨o, e, _⟩ := T.obj _ _ w7 b hb
          exact (pin' b hb o e).2
      cases b with
      | false =>
        simp only [Bool.false_eq_true, if_false] at q9 ⊢
        exact fi0 J9 q9
      | true =>
        simp only [if_true] at q9 ⊢
        refine thnF (pk.run _ u9 σ8 K9 _ J9 q9) fun z u10 ⟨yk, K10, J10, r10, q10⟩ => ?_
        refine thnF (pe.run _ u10 σ8 K10 _ J10 q10) fun z2 u11 ⟨yv, K11, J11, r11, G11, es, ep, ks, vs, kvs, y, zz, nk, g11, hD11, p1, p2, p3, p4, p5, p6, p7, p8, p9, p10, p11, p12, nx⟩ => ?_
        exact kd_set (cl := cl) (X := X.blk u3 K3 scope cv fp) hu J11 g11 hD11 p1 p2 p3 p4 p5 p6 p7 p8 p9 p10 r10 p11 r11 p12 fun u12 es' ep' ks' vs' J12 o1 o2 o3 o4 o5 o6 => fi0 J12 (nx es' ep' ks' vs' o1 o2 o3 o4 o5 o6)
  exact codeAny_compStart_dict lp (T.self X.A 0 _ _ _ w4 lp)
theorem pe_dcd {kx vx tg iter : Expr} {ifs : List Expr} {scope : Scope} {own : List (Str × Nat)} {pos : Pos} {wi : TI} {g : TG} {tt : TT} {tk tv : TE} (hu : X.A.units + 8 < cLine) (hc : X.calm = true) (hN : X.N.Nodup) (hi : PI X tg iter wi) (ok : BlkOk X.N X.env.scope scope own)
    (hg : ∀ (s : Shared) (H : Hp) (C : Addr) (cs : List (Str × Addr)) (fp : List Addr), PG (X.blk s H scope (compEnvC scope cs C X.env) fp) tg g) (ht : ∀ (s : Shared) (H : Hp) (C : Addr) (cs : List (Str × Addr)) (fp : List Addr), PTs (X.blk s H scope (compEnvC scope cs C X.env) fp) ifs tt)
    (hk : ∀ (s : Shared) (H : Hp) (C : Addr) (cs : List (Str × Addr)) (fp : List Addr), PE (X.blk s H scope (compEnvC scope cs C X.env) fp) kx tk)
    (he : ∀ (s : Shared) (H : Hp) (C : Addr) (cs : List (Str × Addr)) (fp : List Addr), PE (X.blk s H scope (compEnvC scope cs C X.env) fp) vx tv) (hs : ∀ x, foldedSetIterable iter X.env x = pure x := by intro _; rfl) :
    PE X (.DictComp kx vx [⟨tg, iter, ifs, 0⟩] scope pos) (tDcD (gm X cl) wi g tt tk tv (own.map (·.2))) := by
  refine ⟨fun pins s σ H Q I h => ?_⟩
  rw [arm_eval_DictComp]
  refine dcd_core hu hc hN I hi ok hg ht hk he hs h fun D C u' m H' J' q hn f => ⟨m, hn, fun k'' sb => ?_⟩
  obtain ⟨f0, f1, g2, g3, f4, f5⟩ := f
  exact ⟨.ref D, H', J'.turned (t' := u'.toks) (fun b o hb e => (sb.2 b hb).trans e) f0 f1 g3 f4 f5, rfl, q⟩

/-! what it computes -/
structure DcI (Γ : Gm) (t : IT) (vs : List Nat) (ek ev : En → Res En R) (items : List Tk.D) (res : List (Tk.D × Tk.D)) (σ : L2.St) (G1 H1 : Hp) (env1 env2 : En) (A : Addr) (i : Nat) (H : Hp) : Prop where
  ex : ∃ (G : Hp) (en : En) (es : Array DictEntry) (ep : Nat) (ks us : List V) (acc : List (Tk.D × Tk.D)), Rel Γ G H (L2.wipe σ vs) (wipeE en vs) ∧ Le (wipeE env1 vs) (wipeE en vs) ∧ Keep G1 H1 (Fp (L2.wipe σ vs) (wipeE env1 vs)) G H ∧ H A = some (dO A es ep) ∧ G A = none ∧
    DOk Γ.w es acc ∧ (∀ p ∈ acc, p.1.isTup = true) ∧ Vals ks (es.toList.map (·.key)) ∧ Vals us (es.toList.map (·.val)) ∧ RepAll Γ G ks (acc.map (·.1)) ∧ RepAll Γ G us (acc.map (·.2)) ∧ dcGo t vs ek ev (items.drop i) acc en = .ok res env2
theorem dc_ev {t : IT} {vs : List Nat} {ei : En → Res En (List Tk.D)} {ek ev : En → Res En R} (hv : ∀ j ∈ t.slots, j ∈ vs) {σ : L2.St} {H : Hp} {Q : VK}
    (z : tX (gm X cl) (fun env => (ei env).bind fun items env1 => (dcGo t vs ek ev items [] env1).bind fun kvs env2 => .ok (.own (.dct kvs)) (backE env1 env2 vs)) σ H Q) :
    tDcD (gm X cl) (tI (gm X cl) ei) (tG (gm X cl) t) (tT (gm X cl) fun env => .ok true env) (tW (gm X cl) fun env => (ek env).frz) (tW (gm X cl) fun env => (ev env).frz) vs σ H (fun v H' => Sz X.K H' → Q v H') := by
  obtain ⟨G, env, R0, m⟩ := z
  refine ⟨G, env, R0, ?_⟩
  dsimp only at m ⊢
  cases qi : ei env with
  | exc x s => rw [qi] at m; exact m.elim
  | stuck => rw [qi] at m; exact m.elim
  | ok items env1 =>
  rw [qi, Res.bind_ok] at m
  intro J G1 H1 s1 w hz A hA
  cases ql : dcGo t vs ek ev items [] env1 with
  | exc x s => rw [ql] at m; exact m.elim
  | stuck => rw [ql] at m; exact m.elim
  | ok res env2 =>
  rw [ql, Res.bind_ok] at m
  have R1 := s1.rel
  have nfp : ∀ a, Fp (L2.wipe σ vs) (wipeE env1 vs) a → H1 a ≠ none := fun a f => by
    obtain ⟨j, s, c, _, h2, h3, h4⟩ := f.wipe
    exact (R1.fp_g ⟨j, s, c, h2, h3, h4⟩).2
  refine ⟨fun i m H' => m = items.length - i ∧ i ≤ items.length ∧ DcI (gm X cl) t vs ek ev items res σ G1 H1 env1 env2 A i H', ⟨items.length, by simp, Nat.zero_le _, ⟨G1, env1, #[], 0, [], [], [], ?_, .refl _, .lay' hA, upd_same, R1.gh.free hA,
    ⟨rfl, fun p h => by simp at h, List.nodup_nil, .inl fun p h => by simp at h⟩, (fun p h => by simp at h), .nil, .nil, .nil, .nil, by simpa using ql⟩⟩, ?_⟩
  · exact (R1.lay' hA).wipe vs
  rintro i mm H' ⟨rfl, hile, ⟨G', en, es, ep, ks, us, acc, R', le', k', hD, gD, d1, d2, d3, d4, d5, d6, hgo⟩⟩
  by_cases hlt : i < items.length
  · refine .inr ⟨w.go i H' hlt (k'.ss.trans R'.gh), fun H'' => DcI (gm X cl) t vs ek ev items res σ G1 H1 env1 env2 A (i + 1) H'', fun H'' p => ⟨items.length - (i + 1), by omega, rfl, hlt, p⟩, fun xv H2 hy => ?_⟩
    obtain ⟨d, hd, ir⟩ := w.yld i H' xv H2 hlt (k'.ss.trans R'.gh) hy
    obtain ⟨G2, R2, rx, k2, st2⟩ := item_rel R' k'.ss ir
    have hDn : H' A ≠ none := by rw [hD]; exact fun z => nomatch z
    obtain ⟨hD2, gD2⟩ := st2 A hDn
    rw [List.drop_eq_getElem_cons hlt] at hgo
    have ed : items[i] = d := by rw [List.getElem?_eq_getElem hlt] at hd; exact Option.some.inj hd
    rw [ed] at hgo
    have hgo : (match bindT t d (wipeE en vs) with
      | none => (.stuck : Res En (List (Tk.D × Tk.D)))
      | some env1 => ((ek env1).frz).bind fun w env2 => ((ev env2).frz).bind fun u env3 => match w, u with
          | .d y, .d z => (match keyD y with
            | some nk => if (y.isTup && decide (nk.depth ≤ 8) && decide (acc.length < sizeLine)) = true then dcGo t vs ek ev (items.drop (i + 1)) (putD nk y z acc) env3 else .stuck
            | none => .stuck)
          | _, _ => .stuck) = .ok res env2 := hgo
    cases qb : bindT t d (wipeE en vs) with
    | none => rw [qb] at hgo; cases hgo
    | some en1 =>
    rw [qb] at hgo
    refine ⟨G2, wipeE en vs, d, R2, rx, ?_⟩
    rw [qb]
    intro σ2 R3 hσ
    have hl2 : σ2.length = σ.length := by
      have h1 := R3.len
      have h2 := bindT_length qb
      have h3 := R2.len
      rw [wipe_length] at h3
      omega
    have hw : L2.wipe σ2 vs = L2.wipe σ vs := wipe_bound hl2 hv hσ
    have fpb : ∀ a, Fp σ2 en1 a → Fp (L2.wipe σ vs) (wipeE env1 vs) a := fun a f => le'.fp (fp_bound qb hv hσ f)
    have nD : ¬ Fp σ2 en1 A := fun f => nfp A (fpb A f) hA
    have kb : Keep G1 H1 (Fp (L2.wipe σ vs) (wipeE env1 vs)) G2 H2 := k'.trans (k2.mono fun _ z => z.elim) fun x f => .inl (le'.fp f)
    refine ⟨hw, G2, en1, R3, ?_⟩
    dsimp only
    intro G3 H3 st3 _
    rw [if_pos rfl]
    refine ⟨G3, en1, st3.rel, ?_⟩
    dsimp only at hgo ⊢
    have step : ∀ {Ga Ha Gb Hb : Hp} {ea eb : En}, (Ha A = some (dO A es ep) ∧ Ga A = none ∧ ¬ Fp σ2 ea A) → Stp (gm X cl) σ2 Ga Ha ea Gb Hb eb → Hb A = some (dO A es ep) ∧ Gb A = none ∧ ¬ Fp σ2 eb A := fun {Ga Ha Gb Hb ea eb} ⟨p1, p2, p3⟩ st => by
      refine ⟨st.keep.fr A _ p1 p3, ?_, fun f => p3 (st.le.fp f)⟩
      cases q : Gb A with
      | none => rfl
      | some o =>
        rcases st.keep.nw A (by rw [q]; exact fun z => nomatch z) with z | z | z
        · exact absurd p2 z
        · rw [p1] at z; cases z
        · exact absurd z p3
    have t2 : H2 A = some (dO A es ep) ∧ G2 A = none ∧ ¬ Fp σ2 en1 A := ⟨hD2.trans hD, gD2.trans gD, nD⟩
    have t3 := step t2 st3
    cases qk : (ek en1).frz with
    | exc x s => rw [qk] at hgo; cases hgo
    | stuck => rw [qk] at hgo; cases hgo
    | ok wk en2 =>
    rw [qk, Res.bind_ok] at hgo
    intro v4 G4 H4 st4 w4 _
    have t4 := step t3 st4
    refine ⟨G4, en2, st4.rel, ?_⟩
    dsimp only
    cases qe : (ev en2).frz with
    | exc x s => rw [qe] at hgo; cases hgo
    | stuck => rw [qe] at hgo; cases hgo
    | ok wv en3 =>
    rw [qe, Res.bind_ok] at hgo
    intro v5 G5 H5 st5 w5 _
    have t5 := step t4 st5
    cases wk with
    | bor j => cases hgo
    | d y =>
    cases wv with
    | bor j => cases hgo
    | d zz =>
    dsimp only at hgo
    cases qy : keyD y with
    | none => rw [qy] at hgo; cases hgo
    | some nk =>
    rw [qy] at hgo
    dsimp only at hgo
    by_cases hcnd : (y.isTup && decide (nk.depth ≤ 8) && decide (acc.length < sizeLine)) = true
    · rw [if_pos hcnd] at hgo
      rw [Bool.and_eq_true, Bool.and_eq_true, decide_eq_true_eq, decide_eq_true_eq] at hcnd
      have ss : Same G' G5 := k2.ss.trans (st3.keep.ss.trans (st4.keep.ss.trans st5.keep.ss))
      have lee : Le en1 en3 := st3.le.trans (st4.le.trans st5.le)
      have le5 : Le (wipeE env1 vs) (wipeE en3 vs) := le'.trans (Le.wiped (bindT_length qb) (fun j hj => bindT_get qb j fun z => hj (hv j z)) lee)
      have kb5 : Keep G1 H1 (Fp (L2.wipe σ vs) (wipeE env1 vs)) G5 H5 := ((kb.trans st3.keep fun x f => .inl (fpb x f)).trans st4.keep fun x f => .inl (fpb x (st3.le.fp f))).trans st5.keep fun x f => .inl (fpb x (st3.le.fp (st4.le.fp f)))
      have R5 := st5.rel.wipe vs
      rw [hw] at R5
      have neA : ∀ a, Fp (L2.wipe σ vs) (wipeE en3 vs) a → a ≠ A := fun a f z => by subst z; exact nfp a (le5.fp f) hA
      have ne1 : ∀ a o, H1 a = some o → a ≠ A := fun a o q z => by subst z; rw [hA] at q; cases q
      refine ⟨G5, es, ep, ks, us, acc, y, zz, nk, st5.rel.gh, t5.1, d1, d2, d3, d4, d5.mono ss, d6.mono ss, qy, hcnd.1.1, hcnd.1.2, Rep.mono st5.keep.ss _ _ w4, w5, hcnd.2, fun es' ep' ks' us' o1 o2 o3 o4 o5 o6 => ?_⟩
      refine ⟨G5, en3, es', ep', ks', us', putD nk y zz acc, ?_, le5, ⟨kb5.ss, fun a o q n => by rw [upd_ne (ne1 a o q)]; exact kb5.fr a o q n, kb5.nw, fun a q => ?_⟩, upd_same, t5.2.1, o1, o2, o3, o4, o5, o6, hgo⟩
      · refine R5.keep (.refl _) (fun b q z => ?_) (fun a f => (R5.fp_g f).1) fun a o f z => by rw [upd_ne (neA a f)]; exact z
        rw [upd_ne (fun z' => by subst z'; rw [t5.2.1] at z; cases z)]
        exact R5.gh _ _ z
      · by_cases ha : a = A
        · subst ha; exact absurd hA q
        · rw [upd_ne ha]; exact kb5.up a q
    · rw [if_neg hcnd] at hgo
      cases hgo
  · have e : i = items.length := by omega
    subst e
    refine .inl ⟨w.stop H' (k'.ss.trans R'.gh), ?_⟩
    rw [List.drop_length] at hgo
    cases hgo
    obtain ⟨R6, le6⟩ := R1.back R' k' le'
    have kk : Keep G1 H1 (Fp σ env1) G' H' := k'.mono fun a f => let ⟨j, s, c, _, h2, h3, h4⟩ := f.wipe; ⟨j, s, c, h2, h3, h4⟩
    refine m (.ref A) G' H' (s1.trans ⟨R6, kk, le6⟩) ⟨⟨A, rfl, gD, es, ep, ks, us, hD, d1, d3, d4, d5, d6⟩, fun a q => ?_⟩
    cases q
    cases q : H A with
    | none => rfl
    | some o => exact absurd hA (s1.keep.up A (by rw [q]; exact fun z => nomatch z))
theorem s_dc {kx vx iter : Expr} {scope : Scope} {own : List (Str × Nat)} {t : IT} {ei : En → Res En (List Tk.D)} {ek ev : En → Res En R} (hu : X.A.units + 8 < cLine) (hc : X.calm = true) (hN : X.N.Nodup) (hi : PI X tg iter (tI (gm X cl) ei))
    (ok : BlkOk X.N X.env.scope scope own) (hg : ∀ (s : Shared) (H : Hp) (C : Addr) (cs : List (Str × Addr)) (fp : List Addr), PG (X.blk s H scope (compEnvC scope cs C X.env) fp) tg (tG (gm X cl) t))
    (hk : ∀ (s : Shared) (H : Hp) (C : Addr) (cs : List (Str × Addr)) (fp : List Addr), PE (X.blk s H scope (compEnvC scope cs C X.env) fp) kx (tW (gm X cl) fun env => (ek env).frz))
    (he : ∀ (s : Shared) (H : Hp) (C : Addr) (cs : List (Str × Addr)) (fp : List Addr), PE (X.blk s H scope (compEnvC scope cs C X.env) fp) vx (tW (gm X cl) fun env => (ev env).frz))
    (hs : ∀ x, foldedSetIterable iter X.env x = pure x) (hv : ∀ j ∈ t.slots, j ∈ own.map (·.2)) :
    PE X (.DictComp kx vx [⟨tg, iter, [], 0⟩] scope pos) (tX (gm X cl) fun env => (ei env).bind fun items env1 => (dcGo t (own.map (·.2)) ek ev items [] env1).bind fun kvs env2 => .ok (.own (.dct kvs)) (backE env1 env2 (own.map (·.2)))) := by
  have ht : ∀ (s : Shared) (H : Hp) (C : Addr) (cs : List (Str × Addr)) (fp : List Addr), PTs (X.blk s H scope (compEnvC scope cs C X.env) fp) [] (tT (gm X cl) fun env => .ok true env) := fun s H C cs fp =>
    ⟨fun pins s' σ' H' Q I z => by
      obtain ⟨G, env, R0, m⟩ := z
      exact wpAny_tests_nil ⟨H', I, m G H' (.refl R0) (inv_sz (X := X.blk s H scope (compEnvC scope cs C X.env) fp) I)⟩⟩
  exact pe_imp (pe_sz (pe_dcd hu hc hN hi ok hg ht hk he hs)) fun σ H Q z => dc_ev hv z
end
end Tk

set_option Elab.async false
set_option linter.all false
set_option maxRecDepth 100000
set_option maxHeartbeats 2000000
/-! Ir19: enumerate, zip. -/
namespace Tk
open PySem PySem.Spec
open L2 hiding St
section
variable {X : Cx} {cl : Nat → Addr} {e : Expr} {pos : Pos}
theorem enumD_get : ∀ (l : List Tk.D) (n i : Nat), (enumD n l)[i]? = (l[i]?).map fun x => .tup [.int (n + i : Nat), x]
  | [], n, i => by simp [enumD]
  | x :: r, n, 0 => by simp [enumD]
  | x :: r, n, i + 1 => by
    have := enumD_get r (n + 1) i
    simp only [enumD, List.getElem?_cons_succ]
    rw [this, show n + 1 + i = n + (i + 1) by omega]
theorem enumD_length : ∀ (l : List Tk.D) (n : Nat), (enumD n l).length = l.length
  | [], n => rfl
  | x :: r, n => by simp [enumD, enumD_length r]
theorem zipD_get : ∀ (l m : List Tk.D) (i : Nat) (x y : Tk.D), l[i]? = some x → m[i]? = some y → (zipD l m)[i]? = some (.tup [x, y])
  | [], _, _, _, _, h, _ => by simp at h
  | _ :: _, [], _, _, _, _, h => by simp at h
  | a :: l, b :: m, 0, x, y, h1, h2 => by simp at h1 h2; simp [zipD, h1, h2]
  | a :: l, b :: m, i + 1, x, y, h1, h2 => by simpa [zipD] using zipD_get l m i x y (by simpa using h1) (by simpa using h2)
theorem zipD_length : ∀ (l m : List Tk.D), (zipD l m).length = min l.length m.length
  | [], m => by simp [zipD]
  | _ :: _, [] => by simp [zipD]
  | a :: l, b :: m => by simp [zipD, zipD_length l m]
theorem walk_of_enum {Γ : Gm} {G : Hp} {a : Addr} {xs : List V} {ds : List Tk.D} (h : SqL Γ.K G a xs) (r : RepAll Γ G xs ds) : WalkD Γ (Ite Γ.K a) (enumD 0 ds) G := by
  have w := walk_enum (K := Γ.K) (a := a) (xs := xs)
  have l := r.length
  have l2 := enumD_length ds 0
  refine ⟨fun i H hi q => w.goes i H (by omega) (q.seq h), fun H q => ?_, fun i H x H' hi q y => ?_⟩
  · rw [l2, ← l]; exact w.stops H (q.seq h)
  · obtain ⟨T, u, v, h1, h2, h3, h4, h5⟩ := w.yields i H x H' (by omega) (q.seq h) y
    obtain ⟨d, hd, rd⟩ := r.get h5
    cases h4
    refine ⟨.tup [.int (i : Nat), d], by rw [enumD_get, hd]; simp, .inr ⟨T, _, _, h1, h2, h3, rfl, .cons (.int _) (.cons rd .nil)⟩⟩
theorem walk_of_zip {Γ : Gm} {G : Hp} {a b : Addr} {xs ys : List V} {ds es : List Tk.D} (h : SqL Γ.K G a xs) (r : RepAll Γ G xs ds) (h' : SqL Γ.K G b ys) (r' : RepAll Γ G ys es) : WalkD Γ (Itz Γ.K a b) (zipD ds es) G := by
  have w := walk_zip (K := Γ.K) (a := a) (b := b) (xs := xs) (ys := ys) rfl
  have l := r.length
  have l' := r'.length
  have l2 := zipD_length ds es
  refine ⟨fun i H hi q => w.goes i H (by omega) ⟨q.seq h, q.seq h'⟩, fun H q => ?_, fun i H x H' hi q y => ?_⟩
  · rw [l2, ← l, ← l']; exact w.stops H ⟨q.seq h, q.seq h'⟩
  · obtain ⟨T, u, v, h1, h2, h3, h4, h5⟩ := w.yields i H x H' (by omega) ⟨q.seq h, q.seq h'⟩ y
    obtain ⟨d, hd, rd⟩ := r.get h4
    obtain ⟨d', hd', rd'⟩ := r'.get h5
    exact ⟨.tup [d, d'], zipD_get _ _ _ _ _ hd hd', .inr ⟨T, _, _, h1, h2, h3, rfl, .cons rd (.cons rd' .nil)⟩⟩
theorem s_enum {elts : List Expr} {kk : Nat} {tpos p : Pos} {ea : En → Res En W} (hg : Gl X "enumerate") (hm : X.mg "enumerate" = none) (ha : PE X e (tW (gm X cl) ea)) (hst : starEach [e] X.env = [(false, eval e X.env)]) :
    PI X (.Tuple elts kk tpos) (.Call (.Name "enumerate" p) [e] [] pos) (tI (gm X cl) fun env => (ea env).bind fun x env1 => match x with
      | .d (.lst l) => .ok (enumD 0 l) env1
      | _ => .stuck) := by
  refine pi_imp (pi_enum hg hm (pa_cons (pe_sz ha) pa_nil hst) hst) fun σ H R ⟨G, env, R0, m⟩ => ⟨G, env, R0, ?_⟩
  dsimp only at m ⊢
  cases qa : ea env with
  | exc x s => rw [qa] at m; exact m.elim
  | stuck => rw [qa] at m; exact m.elim
  | ok x env1 =>
    rw [qa, Res.bind_ok] at m
    intro v G1 H1 s1 w1 z1 _
    cases x with
    | bor i => exact m.elim
    | d x =>
      cases x with
      | lst l =>
        cases (show Rep (gm X cl) G1 v (.lst l) from w1) with
        | lst h r =>
          refine ⟨_, _, rfl, .inl (.inl (s1.rel.gh _ _ h)), m _ G1 H1 s1 (walk_of_enum (.inl (.inl h)) r) ?_⟩
          rw [enumD_length, ← r.length]
          exact z1.l _ _ (.inl (.inl (s1.rel.gh _ _ h)))
      | _ => exact m.elim
theorem s_zip {e2 : Expr} {elts : List Expr} {kk : Nat} {tpos p : Pos} {ea eb : En → Res En W} (hg : Gl X "zip") (hm : X.mg "zip" = none) (ha : PE X e (tW (gm X cl) ea)) (hb : PE X e2 (tW (gm X cl) eb))
    (hst : starEach [e, e2] X.env = (false, eval e X.env) :: starEach [e2] X.env) (hst2 : starEach [e2] X.env = [(false, eval e2 X.env)]) :
    PI X (.Tuple elts kk tpos) (.Call (.Name "zip" p) [e, e2] [] pos) (tI (gm X cl) fun env => (ea env).bind fun x env1 => (eb env1).bind fun y env2 => match x, y with
      | .d (.lst l), .d (.lst m) => .ok (zipD l m) env2
      | _, _ => .stuck) := by
  refine pi_imp (pi_zip hg hm (pa_cons ha (pa_cons (pe_sz hb) pa_nil hst2) hst) hst (by rw [hst2]; rfl)) fun σ H R ⟨G, env, R0, m⟩ => ⟨G, env, R0, ?_⟩
  dsimp only at m ⊢
  cases qa : ea env with
  | exc x s => rw [qa] at m; exact m.elim
  | stuck => rw [qa] at m; exact m.elim
  | ok x env1 =>
    rw [qa, Res.bind_ok] at m
    intro v G1 H1 s1 w1 _
    refine ⟨G1, env1, s1.rel, ?_⟩
    cases qb : eb env1 with
    | exc x s => rw [qb] at m; exact m.elim
    | stuck => rw [qb] at m; exact m.elim
    | ok y env2 =>
      rw [qb, Res.bind_ok] at m
      intro u G2 H2 s2 w2 z2 _
      cases x with
      | bor i => exact m.elim
      | d x =>
        cases x with
        | lst l =>
          cases y with
          | bor i => exact m.elim
          | d y =>
            cases y with
            | lst l2 =>
              cases (show Rep (gm X cl) G1 v (.lst l) from w1) with
              | lst h r =>
                cases (show Rep (gm X cl) G2 u (.lst l2) from w2) with
                | lst h' r' =>
                  have ss := s2.keep.ss
                  have hh := ss _ _ h
                  refine ⟨_, _, _, _, rfl, .inl (.inl (s2.rel.gh _ _ hh)), .inl (.inl (s2.rel.gh _ _ h')), m _ G2 H2 (s1.trans s2) (walk_of_zip (.inl (.inl hh)) (r.mono ss) (.inl (.inl h')) r') ?_⟩
                  rw [zipD_length, ← r.length]
                  exact Nat.le_trans (Nat.min_le_left _ _) (z2.l _ _ (.inl (.inl (s2.rel.gh _ _ hh))))
            | _ => exact m.elim
        | _ => cases y <;> exact m.elim
end
end Tk

set_option Elab.async false
set_option linter.all false
set_option maxRecDepth 100000
set_option maxHeartbeats 2000000
/-! Ir20: that a text of the small language is a text of the program: the check. -/
namespace Tk
open PySem PySem.Spec
open L2 hiding St

structure FnI where
  name : Str
  /-- the calls with keywords: how many by position, the names, the order -/
  kws : List (Nat × List Str × List Nat) := []
structure Ck where
  N : List Str
  T : List FnI
def notStar : Expr → Bool
  | .Starred .. => false
  | _ => true
def notSlice : Expr → Bool
  | .Slice .. => false
  | _ => true
def notSet : Expr → Bool
  | .Set .. => false
  | _ => true
def notComp : Expr → Bool
  | .ListComp .. => false
  | .SetComp .. => false
  | .DictComp .. => false
  | _ => true
def notTup : Expr → Bool
  | .Tuple .. => false
  | _ => true
/-- what a test asks the truth of, as a value -/
def plainT : Expr → Bool
  | .UnaryOp .Not _ _ => false
  | .BoolOp .. => false
  | .IfExp .. => false
  | .Compare .. => false
  | _ => true
def visB (sc : Scope) (x : Str) : Bool := match sc.names.lookup x with
  | some .local => true
  | some .cell => true
  | some .free => true
  | _ => false
def locB (sc : Scope) (x : Str) : Bool := match sc.names.lookup x with
  | some .local => true
  | some .cell => true
  | _ => false
def glB (sc : Scope) (x : Str) : Bool := match sc.names.lookup x with
  | some .globalImplicit => true
  | _ => false
def isLoc (sc : Scope) (x : Str) : Bool := match sc.names.lookup x with
  | some .local => true
  | _ => false
def ndB (x : Str) : Bool := !(x == ("__debug__" : Str)) && !(x == ("__classdict__" : Str))
def BOp.op : BOp → Operator
  | .add => .Add | .sub => .Sub | .mul => .Mult | .fdiv => .FloorDiv | .mod => .Mod | .pow => .Pow
def COp.op : COp → CmpOp
  | .eq => .Eq | .ne => .NotEq | .lt => .Lt | .le => .LtE | .gt => .Gt | .ge => .GtE | .inn => .In | .nin => .NotIn | .is => .Is | .isn => .IsNot
def Bi.name : Bi → Str
  | .len => "len" | .int => "int" | .bool => "bool" | .list => "list" | .tuple => "tuple" | .all => "all" | .any => "any" | .sorted => "sorted"
def operEq : Operator → Operator → Bool
  | .Add, .Add => true | .Sub, .Sub => true | .Mult, .Mult => true | .FloorDiv, .FloorDiv => true | .Mod, .Mod => true | .Pow, .Pow => true
  | _, _ => false
theorem operEq_eq {a b : Operator} (h : operEq a b = true) : a = b := by cases a <;> cases b <;> first | rfl | cases h
def cmpEq : CmpOp → CmpOp → Bool
  | .Eq, .Eq => true | .NotEq, .NotEq => true | .Lt, .Lt => true | .LtE, .LtE => true | .Gt, .Gt => true | .GtE, .GtE => true | .In, .In => true | .NotIn, .NotIn => true | .Is, .Is => true | .IsNot, .IsNot => true
  | _, _ => false
theorem cmpEq_eq {a b : CmpOp} (h : cmpEq a b = true) : a = b := by cases a <;> cases b <;> first | rfl | cases h
def names (N : List Str) (vs : List Nat) : List (Str × Nat) := vs.map fun i => ((N[i]?).getD Str.empty, i)
def chkCon : D → Const → Bool
  | .non, .none => true
  | .bl a, .bool b => a == b
  | .int a, .int b => a == b
  | .str a, .str b => a == b
  | _, _ => false
def chkNm (C : Ck) (sc : Scope) (i : Nat) : Expr → Bool
  | .Name x _ => decide (C.N[i]? = some x) && visB sc x && ndB x
  | _ => false
def chkStor (C : Ck) (sc : Scope) (i : Nat) : Expr → Bool
  | .Name x _ => decide (C.N[i]? = some x) && locB sc x
  | _ => false
def chkStors (C : Ck) (sc : Scope) : List Nat → List Expr → Bool
  | [], [] => true
  | i :: l, e :: es => chkStor C sc i e && chkStors C sc l es
  | _, _ => false
def chkTg (C : Ck) (sc : Scope) : IT → Expr → Bool
  | .name i, e => chkStor C sc i e
  | .tup l, .Tuple es _ _ => chkStors C sc l es
  | _, _ => false
def kwNames : List Keyword → List Str
  | [] => []
  | ⟨some x, _, _⟩ :: r => x :: kwNames r
  | ⟨none, _, _⟩ :: r => kwNames r
def kwAll : List Keyword → Bool
  | [] => true
  | ⟨some _, _, _⟩ :: r => kwAll r
  | ⟨none, _, _⟩ :: _ => false
/-- .. the rest of a BoolOp -/
def boolRest (op : BoolOp) (p : Pos) : List Expr → Expr
  | [y] => y
  | r => .BoolOp op r p

mutual
def chkE (C : Ck) (sc : Scope) : IE → Expr → Bool
  | .var i, e => chkNm C sc i e
  | .frz i, e => chkNm C sc i e
  | .con d, e => match e with
    | .Constant c _ _ => chkCon d c
    | _ => false
  | .glo _ _, _ => false
  | .bin o a b, e => match e with
    | .BinOp l op r _ => operEq o.op op && chkE C sc a l && chkE C sc b r
    | _ => false
  | .cmp o a b, e => match e with
    | .Compare l [op] [r] _ => cmpEq o.op op && notSet r && chkE C sc a l && chkE C sc b r
    | _ => false
  | .and2 a b, e => match e with
    | .BoolOp .And (x :: y :: r) p => chkE C sc a x && chkE C sc b (boolRest .And p (y :: r))
    | _ => false
  | .or2 a b, e => match e with
    | .BoolOp .Or (x :: y :: r) p => chkE C sc a x && chkE C sc b (boolRest .Or p (y :: r))
    | _ => false
  | .not1 a, e => match e with
    | .UnaryOp .Not x _ => chkE C sc a x
    | _ => false
  | .ife c a b, e => match e with
    | .IfExp t x y _ => chkE C sc c t && chkE C sc a x && chkE C sc b y
    | _ => false
  | .idx a b, e => match e with
    | .Subscript x y _ => notSlice y && chkE C sc a x && chkE C sc b y
    | _ => false
  | .slc a lo hi, e => match e with
    | .Subscript x (.Slice l h none _) _ => chkE C sc a x && chkO C sc lo l && chkO C sc hi h
    | _ => false
  | .tup es, e => match e with
    | .Tuple xs _ _ => chkEs C sc es xs
    | _ => false
  | .lst es, e => match e with
    | .List xs _ => chkEs C sc es xs
    | _ => false
  | .bi f a, e => match e with
    | .Call (.Name x _) [y] [] _ => decide (f.name = x) && glB sc x && notStar y && chkE C sc a y
    | _ => false
  | .call f as kw perm, e => match e with
    | .Call (.Name x _) xs kws _ => (match C.T[f]? with
      | some t => decide (t.name = x) && glB sc x && !(x == ("__debug__" : Str)) && chkAs C sc as xs && (match kws with
        | [] => (match kw with | .nil => true | _ => false) && perm.isEmpty
        | _ :: _ => kwAll kws && chkK C sc kw kws && decide ((as.len, kwNames kws, perm) ∈ t.kws))
      | none => false)
    | _ => false
  | .lc it tg vs c el, e => match e with
    | .ListComp elt [⟨t, iter, ifs, 0⟩] scope _ => chkI C sc it t iter && blkC C.N sc scope (names C.N vs) && chkTg C scope tg t && chkIfs C (relS scope sc) c ifs && chkE C (relS scope sc) el elt && notSet iter && decide (∀ j ∈ tg.slots, j ∈ vs)
    | _ => false
  | .dc it tg vs k v, e => match e with
    | .DictComp ke ve [⟨t, iter, [], 0⟩] scope _ => chkI C sc it t iter && blkC C.N sc scope (names C.N vs) && chkTg C scope tg t && chkE C (relS scope sc) k ke && chkE C (relS scope sc) v ve && notSet iter && decide (∀ j ∈ tg.slots, j ∈ vs)
    | _ => false
  | .pop i a, e => match e with
    | .Call (.Attribute o m apos) args [] cpos => decide (m = "pop") && (apos.endLine == cpos.line) && chkNm C sc i o && chkIfs C sc a args && args.all notStar
    | _ => false
def chkO (C : Ck) (sc : Scope) : IO → Option Expr → Bool
  | .none, none => true
  | .some a, some e => chkE C sc a e
  | _, _ => false
def chkIfs (C : Ck) (sc : Scope) : IO → List Expr → Bool
  | .none, [] => true
  | .some y, [x] => chkE C sc y x
  | _, _ => false
def chkEs (C : Ck) (sc : Scope) : IEs → List Expr → Bool
  | .nil, [] => true
  | .cons a as, e :: es => notStar e && chkE C sc a e && chkEs C sc as es
  | _, _ => false
def chkAs (C : Ck) (sc : Scope) : IAs → List Expr → Bool
  | .nil, [] => true
  | .v a as, e :: es => notStar e && chkE C sc a e && chkAs C sc as es
  | .io i as, e :: es => chkNm C sc i e && chkAs C sc as es
  | .sn i as, e :: es => chkNm C sc i e && chkAs C sc as es
  | _, _ => false
def chkK (C : Ck) (sc : Scope) : IAs → List Keyword → Bool
  | .nil, [] => true
  | .v a as, ⟨_, e, _⟩ :: es => chkE C sc a e && chkK C sc as es
  | .io i as, ⟨_, e, _⟩ :: es => chkNm C sc i e && chkK C sc as es
  | .sn i as, ⟨_, e, _⟩ :: es => chkNm C sc i e && chkK C sc as es
  | _, _ => false
/-- what is walked, under the target t -/
def chkI (C : Ck) (sc : Scope) : II → Expr → Expr → Bool
  | .seq a, _, e => chkE C sc a e
  | .rng1 a, _, e => match e with
    | .Call (.Name x _) [y] [] _ => decide (x = "range") && glB sc x && notStar y && chkE C sc a y
    | _ => false
  | .rng2 a b, _, e => match e with
    | .Call (.Name x _) [y, z] [] _ => decide (x = "range") && glB sc x && notStar y && notStar z && chkE C sc a y && chkE C sc b z
    | _ => false
  | .enum a, t, e => match t, e with
    | .Tuple .., .Call (.Name x _) [y] [] _ => decide (x = "enumerate") && glB sc x && notStar y && chkE C sc a y
    | _, _ => false
  | .zip a b, t, e => match t, e with
    | .Tuple .., .Call (.Name x _) [y, z] [] _ => decide (x = "zip") && glB sc x && notStar y && notStar z && chkE C sc a y && chkE C sc b z
    | _, _ => false
end

/-! ### statements -/
def sameLine (a b : Pos) : Bool := a.line == b.line
/-- name = v: which rule -/
def chkAsg1 (sc : Scope) : Expr → Expr → Bool
  | .Name y py, v => notComp v || (match v with
    | .ListComp _ [⟨_, _, _, 0⟩] scope p => if isLoc sc y then py.line == p.line && !(scope.names.any fun (n, k) => n == y && (k == .local || k == .cell)) else true
    | .DictComp .. => !isLoc sc y
    | _ => false)
  | _, _ => false
def chkPair (C : Ck) (sc : Scope) (i j : Nat) : Expr → Expr → Expr → Expr → Bool
  | .Name x px, .Name y py, a, b => decide (C.N[i]? = some x) && decide (C.N[j]? = some y) && !(i == j) && isLoc sc x && isLoc sc y && (py.line == px.line) && !(x == y) && notStar a && notStar b && !([a, b].all (foldedForSure 8)) && !([a, b].all (constantsAlone 8))
  | _, _, _, _ => false
mutual
def chkS (C : Ck) (sc : Scope) : IS → Stmt → Bool
  | .asg tg e, s => match s with
    | .Assign [t] v _ => (match tg with
      | .name i => chkStor C sc i t && chkAsg1 sc t v && chkE C sc e v
      | .tup l => chkTg C sc (.tup l) t && notTup v && notComp v && chkE C sc e v)
    | _ => false
  | .own i e, s => match s with
    | .Assign [t] v _ => chkStor C sc i t && chkAsg1 sc t v && chkE C sc e v
    | _ => false
  | .pair i j a b, s => match s with
    | .Assign [.Tuple [x, y] _ _] (.Tuple [u, v] _ _) _ => chkPair C sc i j x y u v && chkE C sc a u && chkE C sc b v
    | _ => false
  | .seti i k e, s => match s with
    | .Assign [.Subscript o y _] v _ => chkNm C sc i o && notSlice y && chkE C sc k y && chkE C sc e v
    | _ => false
  | .app i e, s => match s with
    | .Expr (.Call (.Attribute o m apos) [x] [] cpos) _ => decide (m = "append") && (apos.endLine == cpos.line) && chkNm C sc i o && notStar x && chkE C sc e x
    | _ => false
  | .ext i e, s => match s with
    | .Expr (.Call (.Attribute o m apos) [x] [] cpos) _ => decide (m = "extend") && (apos.endLine == cpos.line) && chkNm C sc i o && notStar x && chkE C sc e x
    | _ => false
  | .expr e, s => match s with
    | .Expr v _ => notComp v && chkE C sc e v
    | _ => false
  | .ife c a b, s => match s with
    | .If t x y _ => chkE C sc c t && chkSs C sc a x && chkSs C sc b y
    | _ => false
  | .for_ it tg b, s => match s with
    | .For t iter body [] _ => chkI C sc it t iter && chkTg C sc tg t && chkSs C sc b body && notSet iter
    | _ => false
  | .while_ _ c b, s => match s with
    | .While t body [] _ => chkE C sc c t && chkSs C sc b body
    | _ => false
  | .ret e, s => match s with
    | .Return (some v) _ => chkE C sc e v
    | _ => false
  | .retN, s => match s with
    | .Return none _ => true
    | _ => false
  | .brk, s => match s with
    | .Break _ => true
    | _ => false
  | .cnt, s => match s with
    | .Continue _ => true
    | _ => false
  | .pass, s => match s with
    | .Pass _ => true
    | _ => false
def chkSs (C : Ck) (sc : Scope) : ISs → List Stmt → Bool
  | .nil, [] => true
  | .cons a as, s :: ss => chkS C sc a s && chkSs C sc as ss
  | _, _ => false
end
end Tk

set_option Elab.async false
set_option linter.all false
set_option autoImplicit false
set_option maxRecDepth 100000
set_option maxHeartbeats 4000000
/-! Ir21: what the check promises. -/
namespace Tk
open PySem PySem.Spec
open L2 hiding St

def blNames : List Str := ["len", "int", "bool", "list", "tuple", "all", "any", "sorted", "range", "enumerate", "zip"]
structure Fits (X : Cx) (cl : Nat → Addr) (C : Ck) (F : FE) (k : Nat) (sc : Scope) : Prop where
  hN : X.N = C.N
  nd : X.N.Nodup
  hsc : X.env.scope = sc
  kind : sc.kind = .function
  calm : X.calm = true
  room : Room k X.A
  glob : ∀ x ∈ blNames, X.mg x = none
  fns : ∀ i t, C.T[i]? = some t → ∃ (fa : Addr) (ps : List Str) (fd : FuncData), FnOk X.prog X.w X.K X.mg X.base CX0 k fa fd ps (spOf (gm X cl) (F i)) ∧ X.mg t.name = some (.ref fa) ∧ PySem.W.keepIn X.K (.ref fa) = true ∧ Binds X.K fd ps [] ∧ ∀ q ∈ t.kws, KwTo X.K fd ps q.1 q.2.1 q.2.2
/-- where names may be stored -/
structure StF (X : Cx) (so : Scope) : Prop where
  keep : ∀ x k, k ≠ .free → so.names.lookup x = some k → X.env.scope.names.lookup x = some k
  fn : ∀ x, so.names.lookup x = some .cell → X.fn x = true
section
variable {X : Cx} {cl : Nat → Addr} {C : Ck} {F : FE} {k : Nat} {sc so : Scope} {e : Expr}
theorem vis_by {x : Str} (h : visB sc x = true) : Vis sc x := by
  unfold visB at h
  unfold Vis
  split at h
  · rename_i q; exact .inl q
  · rename_i q; exact .inr (.inl q)
  · rename_i q; exact .inr (.inr q)
  · cases h
theorem loc_by {x : Str} (h : locB sc x = true) : L2.Loc sc x := by
  unfold locB at h
  unfold L2.Loc
  split at h
  · rename_i q; exact .inl q
  · rename_i q; exact .inr q
  · cases h
theorem gl_by (f : Fits X cl C F k sc) {x : Str} (h : glB sc x = true) : Gl X x := by
  unfold glB at h
  show X.env.scope.names.lookup x = _
  rw [f.hsc]
  split at h
  · rename_i q; exact q
  · cases h
theorem isLoc_by {x : Str} (h : isLoc sc x = true) : sc.names.lookup x = some .local := by
  unfold isLoc at h
  split at h
  · rename_i q; exact q
  · cases h
theorem nd_by {x : Str} (h : ndB x = true) : (x == ("__debug__" : Str)) = false ∧ (x == ("__classdict__" : Str)) = false := by
  unfold ndB at h
  simp only [Bool.and_eq_true, Bool.not_eq_true'] at h
  exact h
theorem star_cons {es : List Expr} {env : Env} (h : notStar e = true) : starEach (e :: es) env = (false, eval e env) :: starEach es env := by
  cases e <;> first | rfl | cases h
theorem plainIx_by (h : notSlice e = true) : PlainIx e := by
  intro o i
  cases e <;> first | rfl | cases h
theorem marks_by {op : CmpOp} (h : notSet e = true) : behindInMarks op e = false := by
  cases e <;> first | rfl | cases h
theorem folded_by {env : Env} (h : notSet e = true) : ∀ x, foldedSetIterable e env x = pure x := by
  intro x
  cases e <;> first | rfl | cases h
theorem swaps_by {t : Option Expr} {l : Nat} {env : Env} (h : notComp e = true) : swapsWith e t l env = pure false := by
  unfold swapsWith
  cases e <;> first | rfl | cases h
structure NmAt (X : Cx) (i : Nat) (e : Expr) (x : Str) (p : Pos) : Prop where
  ee : e = .Name x p
  ix : X.N[i]? = some x
  vis : Vis X.env.scope x
  nd : (x == ("__debug__" : Str)) = false ∧ (x == ("__classdict__" : Str)) = false
theorem nm_by (f : Fits X cl C F k sc) {i : Nat} (h : chkNm C sc i e = true) : ∃ x p, NmAt X i e x p := by
  cases e with
  | Name x p =>
    simp only [chkNm, Bool.and_eq_true, decide_eq_true_eq] at h
    exact ⟨x, p, rfl, by rw [f.hN]; exact h.1.1, by rw [f.hsc]; exact vis_by h.1.2, nd_by h.2⟩
  | _ => cases h
theorem NmAt.pe {i : Nat} {x : Str} {p : Pos} (n : NmAt X i e x p) : PE X e (tVar i) := by
  obtain ⟨rfl, h1, h2, h3⟩ := n
  exact pe_var h1 h2 h3.1 h3.2
theorem NmAt.base {i : Nat} {x m : Str} {p : Pos} {w : Sem Value} (n : NmAt X i e x p) : attributeBase e m X.env w = w := by
  obtain ⟨rfl, _⟩ := n
  rfl
theorem stor_by (f : Fits X cl C F k sc) (g : StF X so) {i : Nat} (h : chkStor C so i e = true) : ∃ x p, e = .Name x p ∧ Stor X i x ∧ (so.names.lookup x = some .local → X.env.scope.names.lookup x = some .local) := by
  cases e with
  | Name x p =>
    simp only [chkStor, Bool.and_eq_true, decide_eq_true_eq] at h
    have l := loc_by h.2
    refine ⟨x, p, rfl, ⟨by rw [f.hN]; exact h.1, ?_, ?_⟩, g.keep x _ (by decide)⟩
    · rcases l with l | l
      · exact .inl (g.keep x _ (by decide) l)
      · exact .inr (g.keep x _ (by decide) l)
    · rcases l with l | l
      · exact .inr (g.keep x _ (by decide) l)
      · exact .inl (g.fn x l)
  | _ => cases h
theorem stors_by (f : Fits X cl C F k sc) (g : StF X so) : ∀ {l : List Nat} {es : List Expr}, chkStors C so l es = true → Stors X l es
  | [], [], _ => .nil
  | [], _ :: _, h => by cases h
  | _ :: _, [], h => by cases h
  | i :: l, e :: es, h => by
    simp only [chkStors, Bool.and_eq_true] at h
    obtain ⟨x, p, rfl, s, _⟩ := stor_by f g h.1
    exact .cons s (stors_by f g h.2)
theorem tg_by (f : Fits X cl C F k sc) (g : StF X so) {t : IT} (h : chkTg C so t e = true) : PG X e (tG (gm X cl) t) := by
  cases t with
  | name i =>
    obtain ⟨x, p, rfl, s, _⟩ := stor_by f g (show chkStor C so i e = true from h)
    exact s_gname f.nd s
  | tup l =>
    cases e with
    | Tuple es kk p => exact s_gtup f.calm f.nd (stors_by f g h)
    | _ => cases h
/-! an expression, as a value and as a test -/
structure SndE (X : Cx) (cl : Nat → Addr) (e : Expr) (ev : En → Res En R) : Prop where
  pe : PE X e (tX (gm X cl) ev)
  pt : PT X e (tT (gm X cl) fun env => (ev env).tru)
  pw : ∀ op l p, e = .BoolOp op l p → PW X e (tT (gm X cl) fun env => (ev env).tru)
theorem SndE.plain {ev : En → Res En R} (h : PE X e (tX (gm X cl) ev)) (hp : plainT e = true) : SndE X cl e ev where
  pe := h
  pt := s_tru h (by
    intro w
    cases e with
    | UnaryOp op a p => cases op <;> first | rfl | cases hp
    | _ => first | rfl | cases hp)
  pw := fun op l p q => by subst q; cases hp
theorem SndE.w {ev : En → Res En R} (h : SndE X cl e ev) : PE X e (tW (gm X cl) fun env => (ev env).frz) := pe_tW h.pe
theorem SndE.v {ev : En → Res En R} (h : SndE X cl e ev) : PE X e (tV (gm X cl) fun env => (ev env).val) := pe_tX_V h.pe
/-- the rest of a BoolOp -/
theorem SndE.rest {ev : En → Res En R} {op : BoolOp} {p : Pos} {y : Expr} {r : List Expr} (ho : op = .And ∨ op = .Or) (h : SndE X cl (boolRest op p (y :: r)) ev) : PE X (.BoolOp op (y :: r) p) (tX (gm X cl) ev) ∧ PW X (.BoolOp op (y :: r) p) (tT (gm X cl) fun env => (ev env).tru) := by
  cases r with
  | nil =>
    refine ⟨s_one h.pe, ?_⟩
    rcases ho with rfl | rfl
    · exact pw_and1 h.pt
    · exact pw_or1 h.pt
  | cons z r => exact ⟨h.pe, h.pw op _ p rfl⟩
theorem con_by {d : Tk.D} {c : Const} {j : Nat} {p : Pos} (h : chkCon d c = true) : PE X (.Constant c j p) (tX (gm X cl) fun env => .ok (.d d) env) := by
  cases d <;> cases c <;> first | cases h | skip
  · exact s_con pe_non fun G => .non
  · rename_i a b
    obtain rfl : a = b := by simpa [chkCon] using h
    exact s_con pe_bl fun G => .bl _
  · rename_i a b
    obtain rfl : a = b := by simpa [chkCon] using h
    exact s_con pe_int fun G => .int _
  · rename_i a b
    obtain rfl : a = b := by simpa [chkCon] using h
    exact s_con pe_str fun G => .str _
theorem bin_by (o : BOp) : OpD X cl (binaryOp o.op) (binD o) := by
  cases o
  · exact o_add
  · exact o_sub
  · exact o_mul
  · exact o_fdiv
  · exact o_mod
  · exact o_pow
theorem cmp_by (hu : X.A.units + 65 < cLine) (o : COp) : OpD X cl (compareOp o.op) (cR o) := by
  cases o
  · exact o_eq (by omega)
  · exact o_ne (by omega)
  · exact o_lt
  · exact o_le
  · exact o_gt
  · exact o_ge
  · exact o_in hu
  · exact o_nin hu
  · exact o_is
  · exact o_isn
theorem boot_len' : bootBuiltins "len" = some (.builtin "len") := by decide +kernel
theorem boot_all' : bootBuiltins "all" = some (.builtin "all") := by decide +kernel
theorem boot_any' : bootBuiltins "any" = some (.builtin "any") := by decide +kernel
theorem boot_sorted' : bootBuiltins "sorted" = some (.builtin "sorted") := by decide +kernel
theorem boot_int' : bootBuiltins "int" = some (.type "int") := by decide +kernel
theorem boot_bool' : bootBuiltins "bool" = some (.type "bool") := by decide +kernel
theorem boot_list' : bootBuiltins "list" = some (.type "list") := by decide +kernel
theorem boot_tuple' : bootBuiltins "tuple" = some (.type "tuple") := by decide +kernel
theorem bi_by (f : Fits X cl C F k sc) {b : Bi} {a : Expr} {p pos : Pos} {ea : En → Res En W} (hg : Gl X b.name) (ha : PE X a (tW (gm X cl) ea)) (hst : starEach [a] X.env = [(false, eval a X.env)]) :
    PE X (.Call (.Name b.name p) [a] [] pos) (tX (gm X cl) fun env => (ea env).bind fun x env1 => lift ((val env1 x).bind fun u => biD b u) env1) := by
  have hu := f.room.un
  cases b
  · exact s_bi c_len hg (f.glob _ (by decide)) boot_len' (by decide) (by decide) ha hst
  · exact s_ty c_int hg (f.glob _ (by decide)) boot_int' (by decide) (by decide) ha hst
  · exact s_ty c_bool hg (f.glob _ (by decide)) boot_bool' (by decide) (by decide) ha hst
  · exact s_ty (c_list f.calm) hg (f.glob _ (by decide)) boot_list' (by decide) (by decide) ha hst
  · exact s_ty (c_tuple f.calm) hg (f.glob _ (by decide)) boot_tuple' (by decide) (by decide) ha hst
  · exact s_bi (c_all f.calm) hg (f.glob _ (by decide)) boot_all' (by decide) (by decide) ha hst
  · exact s_bi (c_any f.calm) hg (f.glob _ (by decide)) boot_any' (by decide) (by decide) ha hst
  · exact s_bi (c_sorted (by omega)) hg (f.glob _ (by decide)) boot_sorted' (by decide) (by decide) ha hst
/-- within a block -/
theorem Fits.blk (f : Fits X cl C F k sc) {scope : Scope} {vs : List Nat} (hb : blkC C.N sc scope (names C.N vs) = true) (s : Shared) (H : Hp) (A : Addr) (cs : List (Str × Addr)) (fp : List Addr) :
    Fits (X.blk s H scope (compEnvC scope cs A X.env) fp) cl C F k (relS scope sc) where
  hN := f.hN
  nd := f.nd
  hsc := by rw [← f.hsc]; rfl
  kind := (blkOk_by hb).kind
  calm := f.calm
  room := f.room
  glob := f.glob
  fns := f.fns
theorem StF.blk {scope : Scope} (s : Shared) (H : Hp) (A : Addr) (cs : List (Str × Addr)) (fp : List Addr) : StF (X.blk s H scope (compEnvC scope cs A X.env) fp) scope where
  keep := fun x k hk h => lookup_relS_keep (sc := X.env.scope) hk h
  fn := fun x h => by
    show (scope.names.lookup x == some .cell) = true
    rw [h]
    rfl
theorem names_snd (N : List Str) (vs : List Nat) : (names N vs).map (·.2) = vs := by
  unfold names
  rw [List.map_map]
  exact List.map_id _
theorem kw_by {pos : Pos} {env : Env} : ∀ {kws : List Keyword}, kwAll kws = true → (backToKw pos (keywordEach kws env)).all (·.1.isSome) = true ∧ (backToKw pos (keywordEach kws env)).filterMap (·.1) = kwNames kws ∧ (backToKw pos (keywordEach kws env)).any (·.1.isNone) = false
  | [], _ => ⟨rfl, rfl, rfl⟩
  | ⟨some x, e, q⟩ :: r, h => by
    obtain ⟨h1, h2, h3⟩ := kw_by (pos := pos) (env := env) (kws := r) h
    refine ⟨?_, ?_, ?_⟩
    · show (true && (backToKw pos (keywordEach r env)).all (·.1.isSome)) = true
      rw [h1]; rfl
    · show x :: (backToKw pos (keywordEach r env)).filterMap (·.1) = x :: kwNames r
      rw [h2]
    · show (false || (backToKw pos (keywordEach r env)).any (·.1.isNone)) = false
      rw [h3]; rfl
  | ⟨none, e, q⟩ :: r, h => by cases h
theorem kwNames_len : ∀ {kws : List Keyword}, kwAll kws = true → (kwNames kws).length = kws.length
  | [], _ => rfl
  | ⟨some x, e, q⟩ :: r, h => by simp [kwNames, kwNames_len (kws := r) h]
  | ⟨none, e, q⟩ :: r, h => by cases h
theorem chkK_len {C : Ck} {sc : Scope} : ∀ {as : IAs} {kws : List Keyword}, chkK C sc as kws = true → as.len = kws.length
  | .nil, [], _ => rfl
  | .v a as, ⟨_, e, _⟩ :: es, h => by simp only [chkK, Bool.and_eq_true] at h; simp [IAs.len, chkK_len h.2]
  | .io a as, ⟨_, e, _⟩ :: es, h => by simp only [chkK, Bool.and_eq_true] at h; simp [IAs.len, chkK_len h.2]
  | .sn a as, ⟨_, e, _⟩ :: es, h => by simp only [chkK, Bool.and_eq_true] at h; simp [IAs.len, chkK_len h.2]
  | .nil, _ :: _, h => by simp [chkK] at h
  | .v _ _, [], h => by simp [chkK] at h
  | .io _ _, [], h => by simp [chkK] at h
  | .sn _ _, [], h => by simp [chkK] at h
theorem noStars {pos : Pos} {env : Env} {C : Ck} {sc : Scope} : ∀ {as : IAs} {es : List Expr}, chkAs C sc as es = true → (backTo pos (starEach es env)).any (·.1) = false
  | .nil, [], _ => rfl
  | .v a as, e :: es, h => by
    simp only [chkAs, Bool.and_eq_true] at h
    rw [star_cons h.1.1]
    show (false || (backTo pos (starEach es env)).any (·.1)) = false
    rw [noStars h.2]; rfl
  | .io i as, e :: es, h => by
    simp only [chkAs, Bool.and_eq_true] at h
    have hs : notStar e = true := by cases e <;> first | rfl | cases h.1
    rw [star_cons hs]
    show (false || (backTo pos (starEach es env)).any (·.1)) = false
    rw [noStars h.2]; rfl
  | .sn i as, e :: es, h => by
    simp only [chkAs, Bool.and_eq_true] at h
    have hs : notStar e = true := by cases e <;> first | rfl | cases h.1
    rw [star_cons hs]
    show (false || (backTo pos (starEach es env)).any (·.1)) = false
    rw [noStars h.2]; rfl
  | .nil, _ :: _, h => by simp [chkAs] at h
  | .v _ _, [], h => by simp [chkAs] at h
  | .io _ _, [], h => by simp [chkAs] at h
  | .sn _ _, [], h => by simp [chkAs] at h
theorem nm_star {i : Nat} (h : chkNm C sc i e = true) : notStar e = true := by
  cases e with
  | Name x p => rfl
  | _ => cases h
end
end Tk

set_option Elab.async false
set_option linter.all false
set_option autoImplicit false
set_option maxRecDepth 100000
set_option maxHeartbeats 4000000
/-! Ir22: expressions that pass the check. -/
namespace Tk
open PySem PySem.Spec
open L2 hiding St
theorem pt_ifT {X : Cx} {c a b : Expr} {pos : Pos} {tc ta tb : TT} (hc : PT X c tc) (ha : PT X a ta) (hb : PT X b tb) : PT X (.IfExp c a b pos) (fun σ H Q => tc σ H fun d H1 => if d = true then ta σ H1 Q else tb σ H1 Q) := by
  constructor
  intro pins s σ H Q I h
  refine PyProof.Rows.isTrue_IfExp (thn (hc.run pins s σ H _ I h) ?_)
  rintro d s1 ⟨H1, I1, q1⟩
  cases d with
  | true => exact ha.run pins s1 σ H1 Q I1 q1
  | false => exact hb.run pins s1 σ H1 Q I1 q1
theorem s_ifeT {X : Cx} {cl : Nat → Addr} {c a b : Expr} {pos : Pos} {ec ea eb : En → Res En R} (hc : PT X c (tT (gm X cl) fun env => (ec env).tru)) (ha : PT X a (tT (gm X cl) fun env => (ea env).tru)) (hb : PT X b (tT (gm X cl) fun env => (eb env).tru)) :
    PT X (.IfExp c a b pos) (tT (gm X cl) fun env => (((ec env).tru).bind fun k env1 => if k = true then ea env1 else eb env1).tru) := by
  refine pt_imp (pt_ifT hc ha hb) fun σ H Q ⟨G, env, R0, m⟩ => ⟨G, env, R0, ?_⟩
  dsimp only at m ⊢
  cases qa : (ec env).tru with
  | exc x s => rw [qa] at m; exact m.elim
  | stuck => rw [qa] at m; exact m.elim
  | ok k env1 =>
    rw [qa, Res.bind_ok] at m
    intro G1 H1 s1 z1
    cases k with
    | true => rw [if_pos rfl] at m ⊢; exact tT_from s1 m
    | false => rw [if_neg Bool.false_ne_true] at m ⊢; exact tT_from s1 m
def evIfs (F : FE) (c : IO) : En → Res En Bool := fun en => match c with
  | .none => .ok true en
  | .some c => (evE F c en).tru
section
variable {cl : Nat → Addr} {C : Ck} {F : FE} {k : Nat}
theorem hmkIo (Γ : Gm) (G : Hp) (σ : L2.St) (v : V) {i : Nat} (h : σ[i]? = some (some v)) : AR Γ G σ v (.io i) := h
theorem hmkSn (Γ : Gm) (G : Hp) (σ : L2.St) (v : V) {i : Nat} (h : σ[i]? = some (some v)) : AR Γ G σ v (.sn i) := h
mutual
theorem sE : ∀ (ie : IE) (X : Cx) (sc : Scope) (e : Expr), Fits X cl C F k sc → chkE C sc ie e = true → SndE X cl e (evE F ie)
  | .var i, X, sc, e, f, h => by
    obtain ⟨x, p, n⟩ := nm_by f (i := i) (e := e) h
    obtain ⟨rfl, h1, h2, h3⟩ := n
    exact .plain (s_var h1 h2 h3.1 h3.2) rfl
  | .frz i, X, sc, e, f, h => by
    obtain ⟨x, p, n⟩ := nm_by f (i := i) (e := e) h
    obtain ⟨rfl, h1, h2, h3⟩ := n
    exact .plain (s_frz h1 h2 h3.1 h3.2) rfl
  | .con d, X, sc, e, f, h => by
    cases e with
    | Constant c j p => exact .plain (con_by h) rfl
    | _ => cases h
  | .glo x d, X, sc, e, f, h => by cases h
  | .bin o a b, X, sc, e, f, h => by
    cases e with
    | BinOp l op r p =>
      simp only [chkE, Bool.and_eq_true] at h
      obtain ⟨⟨h1, h2⟩, h3⟩ := h
      obtain rfl := operEq_eq h1
      exact .plain (s_bin (bin_by o) (sE a X sc l f h2).w (sE b X sc r f h3).w) rfl
    | _ => cases h
  | .cmp o a b, X, sc, e, f, h => by
    cases e with
    | Compare l ops rs p =>
      match ops, rs, h with
      | [op], [r], h =>
        simp only [chkE, Bool.and_eq_true] at h
        obtain ⟨⟨⟨h1, h2⟩, h3⟩, h4⟩ := h
        obtain rfl := cmpEq_eq h1
        have hu := f.room.un
        have od := cmp_by (X := X) (cl := cl) (by omega) o
        have wa := (sE a X sc l f h3).w
        have wb := (sE b X sc r f h4).w
        exact ⟨s_cmp od (marks_by h2) wa wb, s_cmpT od (marks_by h2) wa wb, fun op' l' p' q => by cases q⟩
      | [], _, h => cases h
      | _ :: _ :: _, _, h => cases h
      | [_], [], h => cases h
      | [_], _ :: _ :: _, h => cases h
    | _ => cases h
  | .and2 a b, X, sc, e, f, h => by
    cases e with
    | BoolOp op xs p =>
      match op, xs, h with
      | .And, x :: y :: r, h =>
        simp only [chkE, Bool.and_eq_true] at h
        have ha := sE a X sc x f h.1
        obtain ⟨b1, b2⟩ := (sE b X sc _ f h.2).rest (.inl rfl)
        have w := s_andT (pos := p) ha.pt b2
        exact ⟨s_and ha.pe b1, w.pt, fun op' l' p' q => by cases q; exact w⟩
      | .Or, _, h => cases h
      | .And, [], h => cases h
      | .And, [_], h => cases h
    | _ => cases h
  | .or2 a b, X, sc, e, f, h => by
    cases e with
    | BoolOp op xs p =>
      match op, xs, h with
      | .Or, x :: y :: r, h =>
        simp only [chkE, Bool.and_eq_true] at h
        have ha := sE a X sc x f h.1
        obtain ⟨b1, b2⟩ := (sE b X sc _ f h.2).rest (.inr rfl)
        have w := s_orT (pos := p) ha.pt b2
        exact ⟨s_or ha.pe b1, w.pt, fun op' l' p' q => by cases q; exact w⟩
      | .And, _, h => cases h
      | .Or, [], h => cases h
      | .Or, [_], h => cases h
    | _ => cases h
  | .not1 a, X, sc, e, f, h => by
    cases e with
    | UnaryOp op x p =>
      cases op with
      | Not =>
        have ha := sE a X sc x f h
        exact ⟨s_not ha.pe, s_notT ha.pt, fun op' l' p' q => by cases q⟩
      | _ => cases h
    | _ => cases h
  | .ife c a b, X, sc, e, f, h => by
    cases e with
    | IfExp t x y p =>
      simp only [chkE, Bool.and_eq_true] at h
      obtain ⟨⟨h1, h2⟩, h3⟩ := h
      have hc := sE c X sc t f h1
      have ha := sE a X sc x f h2
      have hb := sE b X sc y f h3
      exact ⟨s_ife hc.pt ha.pe hb.pe, s_ifeT hc.pt ha.pt hb.pt, fun op' l' p' q => by cases q⟩
    | _ => cases h
  | .idx a b, X, sc, e, f, h => by
    cases e with
    | Subscript x y p =>
      simp only [chkE, Bool.and_eq_true] at h
      obtain ⟨⟨h1, h2⟩, h3⟩ := h
      exact .plain (s_idx (sE a X sc x f h2).w (sE b X sc y f h3).w (plainIx_by h1)) rfl
    | _ => cases h
  | .slc a lo hi, X, sc, e, f, h => by
    cases e with
    | Subscript x y p =>
      cases y with
      | Slice l u st p2 =>
        cases st with
        | none =>
          simp only [chkE, Bool.and_eq_true] at h
          obtain ⟨⟨h1, h2⟩, h3⟩ := h
          exact .plain (s_slc (sE a X sc x f h1).w (sO lo X sc l f h2) (sO hi X sc u f h3)) rfl
        | some _ => cases h
      | _ => cases h
    | _ => cases h
  | .tup es, X, sc, e, f, h => by
    cases e with
    | Tuple xs j p => exact .plain (s_tup (sEs es X sc xs f h)) rfl
    | _ => cases h
  | .lst es, X, sc, e, f, h => by
    cases e with
    | List xs p => exact .plain (s_lst (sEs es X sc xs f h)) rfl
    | _ => cases h
  | .bi b a, X, sc, e, f, h => by
    cases e with
    | Call fn xs kws p =>
      cases fn with
      | Name x q =>
        match xs, kws, h with
        | [y], [], h =>
          simp only [chkE, Bool.and_eq_true, decide_eq_true_eq] at h
          obtain ⟨⟨⟨h1, h2⟩, h3⟩, h4⟩ := h
          subst h1
          exact .plain (bi_by f (gl_by f h2) (sE a X sc y f h4).w (star_cons h3)) rfl
        | [], _, h => cases h
        | _ :: _ :: _, _, h => cases h
        | [_], _ :: _, h => cases h
      | _ => cases h
    | _ => cases h
  | .call n as kw perm, X, sc, e, f, h => by
    cases e with
    | Call fn xs kws p =>
      cases fn with
      | Name x q =>
        simp only [chkE] at h
        cases qt : C.T[n]? with
        | none => rw [qt] at h; cases h
        | some t =>
          rw [qt] at h
          simp only [Bool.and_eq_true, decide_eq_true_eq, Bool.not_eq_true'] at h
          obtain ⟨⟨⟨⟨h1, h2⟩, h3⟩, h4⟩, h5⟩ := h
          subst h1
          obtain ⟨fa, ps, fd, g1, g2, g3, g4, g5⟩ := f.fns n t qt
          have hg := gl_by f h2
          have pa := sAs as X sc xs f h4
          cases kws with
          | nil =>
            simp only [Bool.and_eq_true] at h5
            cases kw with
            | nil =>
              have hp : perm = [] := by cases perm with
                | nil => rfl
                | cons _ _ => cases h5.2
              subst hp
              have ev : evE F (.call n as .nil []) = fun env => (evAs F as env).bind fun xs env1 => callR (F n) xs env1 := by
                funext env
                simp only [evE, evAs, Res.bind_ok, List.append_nil, permA, List.isEmpty_nil, if_pos]
              rw [ev]
              cases xs with
              | nil =>
                have : as = .nil := by cases as <;> first | rfl | (simp [chkAs] at h4)
                subst this
                exact .plain (s_call0 g1 f.room hg g2 g3 g4 h3) rfl
              | cons e0 es =>
                have st : notStar e0 = true ∧ (backTo p (starEach es X.env)).any (·.1) = false := by
                  cases as with
                  | nil => simp [chkAs] at h4
                  | v a as => simp only [chkAs, Bool.and_eq_true] at h4; exact ⟨h4.1.1, noStars h4.2⟩
                  | io i as => simp only [chkAs, Bool.and_eq_true] at h4; exact ⟨nm_star h4.1, noStars h4.2⟩
                  | sn i as => simp only [chkAs, Bool.and_eq_true] at h4; exact ⟨nm_star h4.1, noStars h4.2⟩
                exact .plain (s_call g1 f.room hg g2 g3 g4 pa h3 (star_cons st.1) st.2) rfl
            | _ => cases h5.1
          | cons w ws =>
            simp only [Bool.and_eq_true, decide_eq_true_eq] at h5
            obtain ⟨⟨c1, c2⟩, c3⟩ := h5
            have pk := sK kw X sc (w :: ws) f c2
            obtain ⟨k1, k2, k3⟩ := kw_by (pos := p) (env := X.env) c1
            have kt := g5 _ c3
            have hl : ∀ env xs env', evAs F kw env = .ok xs env' → xs.length = (kwNames (w :: ws)).length := fun env ys env' hh => by
              rw [evAs_len kw _ _ _ hh, chkK_len c2, kwNames_len c1]
            cases xs with
            | nil =>
              have : as = .nil := by cases as <;> first | rfl | (simp [chkAs] at h4)
              subst this
              have ev : evE F (.call n .nil kw perm) = fun env => (Res.ok ([] : List Arg) env).bind fun xs env1 => (evAs F kw env1).bind fun ys env2 => match permA (xs ++ ys) perm with
                  | some zs => callR (F n) zs env2
                  | none => .stuck := by
                funext env
                simp only [evE, evAs, Res.bind_ok]
                try rfl
              rw [ev]
              exact .plain (s_callK0 g1 f.room hg g2 g3 kt pk hl k1 k2 h3 (by rw [k3]; rfl)) rfl
            | cons e0 es =>
              have st : notStar e0 = true ∧ (backTo p (starEach (e0 :: es) X.env)).any (·.1) = false := by
                refine ⟨?_, noStars h4⟩
                cases as with
                | nil => simp [chkAs] at h4
                | v a as => simp only [chkAs, Bool.and_eq_true] at h4; exact h4.1.1
                | io i as => simp only [chkAs, Bool.and_eq_true] at h4; exact nm_star h4.1
                | sn i as => simp only [chkAs, Bool.and_eq_true] at h4; exact nm_star h4.1
              exact .plain (s_callK g1 f.room hg g2 g3 kt pa pk (fun env xs env' hh => evAs_len as _ _ _ hh) hl k1 k2 h3 (star_cons st.1) (by rw [st.2, k3]; rfl)) rfl
      | _ => cases h
    | _ => cases h
  | .lc it tg vs c el, X, sc, e, f, h => by
    cases e with
    | ListComp elt gens scope p =>
      match gens, h with
      | [⟨t, iter, ifs, 0⟩], h =>
        obtain ⟨h, h7⟩ := Bool.and_eq_true_iff.mp (show (chkI C sc it t iter && blkC C.N sc scope (names C.N vs) && chkTg C scope tg t && chkIfs C (relS scope sc) c ifs && chkE C (relS scope sc) el elt && notSet iter && decide (∀ j ∈ tg.slots, j ∈ vs)) = true from h)
        obtain ⟨h, h6⟩ := Bool.and_eq_true_iff.mp h
        obtain ⟨h, h5⟩ := Bool.and_eq_true_iff.mp h
        obtain ⟨h, h4⟩ := Bool.and_eq_true_iff.mp h
        obtain ⟨h, h3⟩ := Bool.and_eq_true_iff.mp h
        obtain ⟨h1, h2⟩ := Bool.and_eq_true_iff.mp h
        have h7 := of_decide_eq_true h7
        have ok : BlkOk X.N X.env.scope scope (names C.N vs) := by rw [f.hN, f.hsc]; exact blkOk_by h2
        have hv := names_snd C.N vs
        have key := s_lc (own := names C.N vs) (t := tg) (ec := evIfs F c) (ee := fun en => evE F el en) (pos := p) f.calm f.nd (sI it X sc t iter f h1) ok
          (fun s H A cs fp => tg_by (f.blk h2 s H A cs fp) (StF.blk s H A cs fp) h3)
          (fun s H A cs fp => sIfs c _ _ ifs (f.blk h2 s H A cs fp) h4)
          (fun s H A cs fp => (sE el _ _ elt (f.blk h2 s H A cs fp) h5).w)
          (folded_by h6) (by rw [hv]; exact h7)
        rw [hv] at key
        refine .plain ?_ rfl
        have e2 : evE F (.lc it tg vs c el) = fun env => (evI F it env).bind fun items env1 => (lcGo tg vs (evIfs F c) (fun en => evE F el en) items env1).bind fun ys env2 => .ok (.own (.lst ys)) (backE env1 env2 vs) := by
          funext env
          simp only [evE]
          rfl
        rw [e2]
        exact key
    | _ => cases h
  | .dc it tg vs kx vx, X, sc, e, f, h => by
    cases e with
    | DictComp ke ve gens scope p =>
      match gens, h with
      | [⟨t, iter, [], 0⟩], h =>
        obtain ⟨h, h7⟩ := Bool.and_eq_true_iff.mp (show (chkI C sc it t iter && blkC C.N sc scope (names C.N vs) && chkTg C scope tg t && chkE C (relS scope sc) kx ke && chkE C (relS scope sc) vx ve && notSet iter && decide (∀ j ∈ tg.slots, j ∈ vs)) = true from h)
        obtain ⟨h, h6⟩ := Bool.and_eq_true_iff.mp h
        obtain ⟨h, h5⟩ := Bool.and_eq_true_iff.mp h
        obtain ⟨h, h4⟩ := Bool.and_eq_true_iff.mp h
        obtain ⟨h, h3⟩ := Bool.and_eq_true_iff.mp h
        obtain ⟨h1, h2⟩ := Bool.and_eq_true_iff.mp h
        have h7 := of_decide_eq_true h7
        have ok : BlkOk X.N X.env.scope scope (names C.N vs) := by rw [f.hN, f.hsc]; exact blkOk_by h2
        have hv := names_snd C.N vs
        have hu := f.room.un
        have key := s_dc (own := names C.N vs) (t := tg) (ek := fun en => evE F kx en) (ev := fun en => evE F vx en) (pos := p) (by omega) f.calm f.nd (sI it X sc t iter f h1) ok
          (fun s H A cs fp => tg_by (f.blk h2 s H A cs fp) (StF.blk s H A cs fp) h3)
          (fun s H A cs fp => (sE kx _ _ ke (f.blk h2 s H A cs fp) h4).w)
          (fun s H A cs fp => (sE vx _ _ ve (f.blk h2 s H A cs fp) h5).w)
          (folded_by h6) (by rw [hv]; exact h7)
        rw [hv] at key
        exact .plain key rfl
    | _ => cases h
  | .pop i a, X, sc, e, f, h => by
    cases e with
    | Call fn xs kws p =>
      cases fn with
      | Attribute o m q =>
        match kws, h with
        | [], h =>
          obtain ⟨h, h5⟩ := Bool.and_eq_true_iff.mp (show (decide (m = "pop") && (q.endLine == p.line) && chkNm C sc i o && chkIfs C sc a xs && xs.all notStar) = true from h)
          obtain ⟨h, h4⟩ := Bool.and_eq_true_iff.mp h
          obtain ⟨h, h3⟩ := Bool.and_eq_true_iff.mp h
          obtain ⟨h1, h2⟩ := Bool.and_eq_true_iff.mp h
          have h1 := of_decide_eq_true h1
          subst h1
          obtain ⟨x, px, n⟩ := nm_by f h3
          match a, xs, h4, h5 with
          | .none, [], _, _ =>
            have ev : evE F (.pop i .none) = fun env => match cellAt env i with
              | some (.lst l) => (match l.getLast? with
                | some x => .ok (.d x) (putCell env i (.lst l.dropLast))
                | none => .stuck)
              | _ => .stuck := by funext env; simp only [evE]; try rfl
            rw [ev]
            exact .plain (s_pop n.pe n.base h2) rfl
          | .some a, [y], h4, h5 =>
            have h6 : notStar y = true := by simpa using h5
            have ev : evE F (.pop i (.some a)) = fun env => match cellAt env i with
              | some (.lst _) => ((evE F a env).val).bind fun x env1 => (match cellAt env1 i, x with
                | some (.lst l), .int k => if -(2 ^ 63) ≤ k ∧ k < 2 ^ 63 then (match seqIndex? k l.length with
                  | some n => (match l[n]? with
                    | some x => .ok (.d x) (putCell env1 i (.lst (l.eraseIdx n)))
                    | none => .stuck)
                  | none => .stuck) else .stuck
                | _, _ => .stuck)
              | _ => .stuck := by funext env; simp only [evE]; try rfl
            rw [ev]
            exact .plain (s_popAt n.pe (sE a X sc y f h4).v n.base (star_cons h6) h2) rfl
          | .none, _ :: _, h4, _ => cases h4
          | .some _, [], h4, _ => cases h4
          | .some _, _ :: _ :: _, h4, _ => cases h4
        | _ :: _, h => cases h
      | _ => cases h
    | _ => cases h
theorem sO : ∀ (io : IO) (X : Cx) (sc : Scope) (e : Option Expr), Fits X cl C F k sc → chkO C sc io e = true → PO X e (tO (gm X cl) (evO F io))
  | .none, X, sc, e, f, h => by
    cases e with
    | none => exact s_onone
    | some _ => cases h
  | .some a, X, sc, e, f, h => by
    cases e with
    | none => cases h
    | some e => exact s_osome (sE a X sc e f h).pe
theorem sIfs : ∀ (io : IO) (X : Cx) (sc : Scope) (xs : List Expr), Fits X cl C F k sc → chkIfs C sc io xs = true → PTs X xs (tT (gm X cl) (evIfs F io))
  | .none, X, sc, xs, f, h => by
    cases xs with
    | nil => exact ⟨fun pins s' σ' H' Q I z => by
        obtain ⟨G, env, R0, m⟩ := z
        exact wpAny_tests_nil ⟨H', I, m G H' (.refl R0) (inv_sz I)⟩⟩
    | cons _ _ => cases h
  | .some a, X, sc, xs, f, h => by
    match xs, h with
    | [x], h => exact pts_one (sE a X sc x f h).pt
    | [], h => cases h
    | _ :: _ :: _, h => cases h
theorem sEs : ∀ (es : IEs) (X : Cx) (sc : Scope) (xs : List Expr), Fits X cl C F k sc → chkEs C sc es xs = true → PA X xs (tWs (gm X cl) (evEs F es))
  | .nil, X, sc, xs, f, h => by
    cases xs with
    | nil => exact s_nil
    | cons _ _ => cases h
  | .cons a as, X, sc, xs, f, h => by
    cases xs with
    | nil => cases h
    | cons e es =>
      simp only [chkEs, Bool.and_eq_true] at h
      exact s_cons (sE a X sc e f h.1.2).w (sEs as X sc es f h.2) (star_cons h.1.1)
theorem sAs : ∀ (as : IAs) (X : Cx) (sc : Scope) (xs : List Expr), Fits X cl C F k sc → chkAs C sc as xs = true → PA X xs (tAs (gm X cl) (evAs F as))
  | .nil, X, sc, xs, f, h => by
    cases xs with
    | nil => exact s_anil
    | cons _ _ => cases h
  | .v a as, X, sc, xs, f, h => by
    cases xs with
    | nil => cases h
    | cons e es =>
      simp only [chkAs, Bool.and_eq_true] at h
      exact s_av (sE a X sc e f h.1.2).w (sAs as X sc es f h.2) (star_cons h.1.1)
  | .io i as, X, sc, xs, f, h => by
    cases xs with
    | nil => cases h
    | cons e es =>
      simp only [chkAs, Bool.and_eq_true] at h
      obtain ⟨x, p, n⟩ := nm_by f h.1
      exact s_ar (i := i) (mk := Arg.io) (fun _ _ _ _ h => h) n.pe (sAs as X sc es f h.2) (star_cons (nm_star h.1))
  | .sn i as, X, sc, xs, f, h => by
    cases xs with
    | nil => cases h
    | cons e es =>
      simp only [chkAs, Bool.and_eq_true] at h
      obtain ⟨x, p, n⟩ := nm_by f h.1
      exact s_ar (i := i) (mk := Arg.sn) (fun _ _ _ _ h => h) n.pe (sAs as X sc es f h.2) (star_cons (nm_star h.1))
theorem sK : ∀ (as : IAs) (X : Cx) (sc : Scope) (xs : List Keyword), Fits X cl C F k sc → chkK C sc as xs = true → PK X xs (tAs (gm X cl) (evAs F as))
  | .nil, X, sc, xs, f, h => by
    cases xs with
    | nil => exact s_knil
    | cons _ _ => simp [chkK] at h
  | .v a as, X, sc, xs, f, h => by
    match xs, h with
    | ⟨nm, e, q⟩ :: es, h =>
      simp only [chkK, Bool.and_eq_true] at h
      exact s_kv (sE a X sc e f h.1).w (sK as X sc es f h.2)
    | [], h => simp [chkK] at h
  | .io i as, X, sc, xs, f, h => by
    match xs, h with
    | ⟨nm, e, q⟩ :: es, h =>
      simp only [chkK, Bool.and_eq_true] at h
      obtain ⟨x, p, n⟩ := nm_by f h.1
      exact s_kr (i := i) (mk := Arg.io) (fun _ _ _ _ h => h) n.pe (sK as X sc es f h.2)
    | [], h => simp [chkK] at h
  | .sn i as, X, sc, xs, f, h => by
    match xs, h with
    | ⟨nm, e, q⟩ :: es, h =>
      simp only [chkK, Bool.and_eq_true] at h
      obtain ⟨x, p, n⟩ := nm_by f h.1
      exact s_kr (i := i) (mk := Arg.sn) (fun _ _ _ _ h => h) n.pe (sK as X sc es f h.2)
    | [], h => simp [chkK] at h
theorem sI : ∀ (it : II) (X : Cx) (sc : Scope) (t e : Expr), Fits X cl C F k sc → chkI C sc it t e = true → PI X t e (tI (gm X cl) (evI F it))
  | .seq a, X, sc, t, e, f, h => s_seq (sE a X sc e f h).w
  | .rng1 a, X, sc, t, e, f, h => by
    cases e with
    | Call fn xs kws p =>
      cases fn with
      | Name x q =>
        match xs, kws, h with
        | [y], [], h =>
          simp only [chkI, Bool.and_eq_true, decide_eq_true_eq] at h
          obtain ⟨⟨⟨h1, h2⟩, h3⟩, h4⟩ := h
          subst h1
          exact s_rng1 (gl_by f h2) (f.glob _ (by decide)) (sE a X sc y f h4).pe (star_cons h3)
        | [], _, h => cases h
        | _ :: _ :: _, _, h => cases h
        | [_], _ :: _, h => cases h
      | _ => cases h
    | _ => cases h
  | .rng2 a b, X, sc, t, e, f, h => by
    cases e with
    | Call fn xs kws p =>
      cases fn with
      | Name x q =>
        match xs, kws, h with
        | [y, z], [], h =>
          simp only [chkI, Bool.and_eq_true, decide_eq_true_eq] at h
          obtain ⟨⟨⟨⟨⟨h1, h2⟩, h3⟩, h4⟩, h5⟩, h6⟩ := h
          subst h1
          have e2 := star_cons (es := []) (env := X.env) h4
          exact s_rng2 (gl_by f h2) (f.glob _ (by decide)) (sE a X sc y f h5).pe (sE b X sc z f h6).pe (by rw [star_cons h3, e2]; rfl) e2
        | [], _, h => cases h
        | [_], _, h => cases h
        | _ :: _ :: _ :: _, _, h => cases h
        | [_, _], _ :: _, h => cases h
      | _ => cases h
    | _ => cases h
  | .enum a, X, sc, t, e, f, h => by
    cases t with
    | Tuple elts kk tpos =>
      cases e with
      | Call fn xs kws p =>
        cases fn with
        | Name x q =>
          match xs, kws, h with
          | [y], [], h =>
            simp only [chkI, Bool.and_eq_true, decide_eq_true_eq] at h
            obtain ⟨⟨⟨h1, h2⟩, h3⟩, h4⟩ := h
            subst h1
            exact s_enum (gl_by f h2) (f.glob _ (by decide)) (sE a X sc y f h4).w (star_cons h3)
          | [], _, h => cases h
          | _ :: _ :: _, _, h => cases h
          | [_], _ :: _, h => cases h
        | _ => cases h
      | _ => cases h
    | _ => cases e <;> cases h
  | .zip a b, X, sc, t, e, f, h => by
    cases t with
    | Tuple elts kk tpos =>
      cases e with
      | Call fn xs kws p =>
        cases fn with
        | Name x q =>
          match xs, kws, h with
          | [y, z], [], h =>
            simp only [chkI, Bool.and_eq_true, decide_eq_true_eq] at h
            obtain ⟨⟨⟨⟨⟨h1, h2⟩, h3⟩, h4⟩, h5⟩, h6⟩ := h
            subst h1
            have e2 := star_cons (es := []) (env := X.env) h4
            exact s_zip (gl_by f h2) (f.glob _ (by decide)) (sE a X sc y f h5).w (sE b X sc z f h6).w (star_cons h3) e2
          | [], _, h => cases h
          | [_], _, h => cases h
          | _ :: _ :: _ :: _, _, h => cases h
          | [_, _], _ :: _, h => cases h
        | _ => cases h
      | _ => cases h
    | _ => cases e <;> cases h
end
end
end Tk

set_option Elab.async false
set_option linter.all false
set_option autoImplicit false
set_option maxRecDepth 100000
set_option maxHeartbeats 4000000
/-! Ir23: statements that pass the check; a def. -/
namespace Tk
open PySem PySem.Spec
open L2 hiding St
section
variable {cl : Nat → Addr} {C : Ck} {F : FE} {k : Nat}
theorem line_beq {a b : Nat} (h : (a == b) = true) : (a == b) = true := h
/-- name = v -/
theorem asg1_by {X : Cx} {sc : Scope} (f : Fits X cl C F k sc) (g : StF X sc) {e : IE} {t v : Expr} {i : Nat} {pos : Pos} (h1 : chkStor C sc i t = true) (h2 : chkAsg1 sc t v = true) (h3 : chkE C sc e v = true) :
    ∃ t0 : TE, PS X (.Assign [t] v pos) (tAsg t0 (gName i)) ∧ ∀ σ H Q, tX (gm X cl) (evE F e) σ H Q → t0 σ H fun v H' => Sz X.K H' → Q v H' := by
  obtain ⟨y, py, rfl, st, lc⟩ := stor_by f g h1
  have plain : swapsWith v (some (.Name y py)) pos.line X.env = pure false → ∃ t0 : TE, PS X (.Assign [.Name y py] v pos) (tAsg t0 (gName i)) ∧ ∀ σ H Q, tX (gm X cl) (evE F e) σ H Q → t0 σ H fun v H' => Sz X.K H' → Q v H' := fun hs =>
    ⟨_, ps_set f.nd st.ix st.loc (sE e X sc v f h3).pe hs st.fn, fun σ H Q z => tX_sz σ H Q z⟩
  have hk : X.env.scope.kind = .function := by rw [f.hsc]; exact f.kind
  have nl : isLoc sc y = false → (X.env.kindOf y == some .local) = false := fun hn => by
    unfold Env.kindOf
    rw [f.hsc]
    unfold isLoc at hn
    split at hn
    · cases hn
    · rename_i q
      cases q2 : sc.names.lookup y with
      | none => rfl
      | some kd => cases kd <;> first | rfl | (exact absurd q2 q)
  simp only [chkAsg1, Bool.or_eq_true] at h2
  rcases h2 with h2 | h2
  · exact plain (swaps_by h2)
  · cases v with
    | ListComp elt gens scope p =>
      match gens, h2, h3 with
      | [⟨tg, iter, ifs, 0⟩], h2, h3 =>
        by_cases hl : isLoc sc y = true
        · have h2 : (py.line == p.line && !(scope.names.any fun (n, k) => n == y && (k == .local || k == .cell))) = true := by
            have h2 : (if isLoc sc y then py.line == p.line && !(scope.names.any fun (n, k) => n == y && (k == .local || k == .cell)) else true) = true := h2
            rw [if_pos hl] at h2
            exact h2
          obtain ⟨l1, l2⟩ := Bool.and_eq_true_iff.mp h2
          have hy : X.env.scope.names.lookup y = some .local := lc (isLoc_by hl)
          have sw := sw_true (elt := elt) (gs := [⟨tg, iter, ifs, 0⟩]) (scope := scope) (pos := p) (py := py) (l := pos.line) hk hy l1 (by simpa using l2)
          cases e with
          | lc it t2 vs c el =>
            obtain ⟨h, h7⟩ := Bool.and_eq_true_iff.mp (show (chkI C sc it tg iter && blkC C.N sc scope (names C.N vs) && chkTg C scope t2 tg && chkIfs C (relS scope sc) c ifs && chkE C (relS scope sc) el elt && notSet iter && decide (∀ j ∈ t2.slots, j ∈ vs)) = true from h3)
            obtain ⟨h, h6⟩ := Bool.and_eq_true_iff.mp h
            obtain ⟨h, h5⟩ := Bool.and_eq_true_iff.mp h
            obtain ⟨h, h4⟩ := Bool.and_eq_true_iff.mp h
            obtain ⟨h, h3⟩ := Bool.and_eq_true_iff.mp h
            obtain ⟨h1, h2⟩ := Bool.and_eq_true_iff.mp h
            have h7 := of_decide_eq_true h7
            have ok : BlkOk X.N X.env.scope scope (names C.N vs) := by rw [f.hN, f.hsc]; exact blkOk_by h2
            have hv := names_snd C.N vs
            have key := ps_setLc (g := tG (gm X cl) t2) (tt := tT (gm X cl) (evIfs F c)) (te := tW (gm X cl) fun env => (evE F el env).frz) (own := names C.N vs) (spos := pos) f.calm f.nd st.ix hy sw (sI it X sc tg iter f h1) ok
              (fun s H A cs fp => tg_by (f.blk h2 s H A cs fp) (StF.blk s H A cs fp) h3)
              (fun s H A cs fp => sIfs c _ _ ifs (f.blk h2 s H A cs fp) h4)
              (fun s H A cs fp => (sE el _ _ elt (f.blk h2 s H A cs fp) h5).w) (folded_by h6)
            rw [hv] at key
            refine ⟨_, key, fun σ H Q z => lc_ev h7 ?_⟩
            have e2 : evE F (.lc it t2 vs c el) = fun env => (evI F it env).bind fun items env1 => (lcGo t2 vs (evIfs F c) (fun en => evE F el en) items env1).bind fun ys env2 => .ok (.own (.lst ys)) (backE env1 env2 vs) := by
              funext env
              simp only [evE]
              rfl
            rw [e2] at z
            exact z
          | _ => cases h3
        · have hn : isLoc sc y = false := by simpa using hl
          refine plain ?_
          unfold swapsWith
          simp only [nl hn, Bool.and_false, Bool.false_and]
    | DictComp ke ve gens scope p =>
      have hn : isLoc sc y = false := by simpa using h2
      refine plain ?_
      unfold swapsWith
      simp only [nl hn, Bool.and_false, Bool.false_and]
    | SetComp elt gens scope p => cases h2
    | _ => exact plain (swaps_by rfl)
theorem swp {env : Env} {x y : Str} {px py pt pt2 : Pos} {kt k2 : Nat} {a b : Expr} (hk : env.scope.kind = .function) (hx : env.scope.names.lookup x = some .local) (hy : env.scope.names.lookup y = some .local) (hl : (py.line == px.line) = true) (hn : x ≠ y)
    (ha : notStar a = true) (hb : notStar b = true) (f1 : [a, b].all (foldedForSure 8) = false) (f2 : [a, b].all (constantsAlone 8) = false) : swappedStores [.Tuple [.Name x px, .Name y py] kt pt] (.Tuple [a, b] k2 pt2) env = pure (some [x, y]) := by
  have hb0 : env.blockKind = .function := by unfold Env.blockKind; rw [hk]; rfl
  have k1 : env.kindOf x = some .local := hx
  have k2 : env.kindOf y = some .local := hy
  have st : ([a, b].any fun | .Starred .. => true | _ => false) = false := by
    have s1 : ∀ e : Expr, notStar e = true → (match e with | .Starred .. => true | _ => false) = false := fun e he => by cases e <;> first | rfl | cases he
    simp [s1 a ha, s1 b hb]
  have en : [x, y].eraseDups = [x, y] := by
    have hn2 : (y == x) = false := by rw [beq_eq_false_iff_ne]; exact fun z => hn z.symm
    simp [List.eraseDups, List.eraseDupsBy, List.eraseDupsBy.loop, hn2]
  unfold swappedStores
  simp only [hb0, k1, k2, st, f1, f2, List.length_cons, List.length_nil, List.filterMap_cons, List.filterMap_nil, List.head?_cons, Option.map_some, Option.getD_some, Expr.pos, hl, beq_self_eq_true, Bool.and_self, if_true, en]
  refine (if_neg (by decide)).trans ((if_neg fun z => ?_).trans ((if_neg (by decide)).trans ((if_neg (by decide)).trans (if_neg (by decide)))))
  exact Bool.false_ne_true (st.symm.trans z)
theorem swst_none {X : Cx} {t v : Expr} (h : notTup v = true) : swappedStores [t] v X.env = pure none := by
  unfold swappedStores
  cases v <;> first | (cases t <;> rfl) | cases h
theorem swsole_by {t v : Expr} {l : Nat} {env : Env} (h : notComp v = true) : swapsWithSole [t] v l env = pure false := swaps_by h
theorem asg_one {t : Expr} {env : Env} (h : notStar t = true) : (assignEach [t] env).map (·.2) = [assign t env] := by
  cases t <;> first | rfl | cases h
theorem tg_star {sc : Scope} {t : IT} {e : Expr} (h : chkTg C sc t e = true) : notStar e = true := by
  cases e with
  | Starred _ _ => cases t <;> cases h
  | _ => rfl
theorem sub_assign {o y : Expr} {p : Pos} {env : Env} (h : notSlice y = true) : ∀ v, assign (.Subscript o y p) env v = (do
      let ov ← holding [v] (eval o env)
      let iv ← holding [v, ov] (eval y env)
      standAt p
      holding [v, ov, iv] (setItem ov iv v)
      release [v, ov, iv] []) := by
  intro v
  cases y <;> first | rfl | cases h
mutual
theorem sS : ∀ (is : IS) (X : Cx) (sc : Scope) (s : Stmt), Fits X cl C F k sc → StF X sc → PassesOwn (model X.prog X.w) X.A X.env X.xe → chkS C sc is s = true → PS X s (tS (gm X cl) (evS F is))
  | .asg tg e, X, sc, s, f, g, hp, h => by
    cases s with
    | Assign ts v p =>
      match ts, h with
      | [t], h =>
        cases tg with
        | name i =>
          obtain ⟨h, h3⟩ := Bool.and_eq_true_iff.mp (show (chkStor C sc i t && chkAsg1 sc t v && chkE C sc e v) = true from h)
          obtain ⟨h1, h2⟩ := Bool.and_eq_true_iff.mp h
          obtain ⟨t0, a1, a2⟩ := asg1_by (pos := p) f g h1 h2 h3
          exact s_asg1 a1 a2
        | tup l =>
          obtain ⟨h, h4⟩ := Bool.and_eq_true_iff.mp (show (chkTg C sc (.tup l) t && notTup v && notComp v && chkE C sc e v) = true from h)
          obtain ⟨h, h3⟩ := Bool.and_eq_true_iff.mp h
          obtain ⟨h1, h2⟩ := Bool.and_eq_true_iff.mp h
          exact s_asg (sE e X sc v f h4).w (tg_by f g h1) (swsole_by h3) (swst_none h2) (asg_one (tg_star h1))
      | [], h => cases h
      | _ :: _ :: _, h => cases h
    | _ => cases h
  | .own i e, X, sc, s, f, g, hp, h => by
    cases s with
    | Assign ts v p =>
      match ts, h with
      | [t], h =>
        obtain ⟨h, h3⟩ := Bool.and_eq_true_iff.mp (show (chkStor C sc i t && chkAsg1 sc t v && chkE C sc e v) = true from h)
        obtain ⟨h1, h2⟩ := Bool.and_eq_true_iff.mp h
        obtain ⟨t0, a1, a2⟩ := asg1_by (pos := p) f g h1 h2 h3
        exact s_own a1 a2
      | [], h => cases h
      | _ :: _ :: _, h => cases h
    | _ => cases h
  | .pair i j a b, X, sc, s, f, g, hp, h => by
    unfold chkS at h
    split at h
    · rename_i x y kt pt u w k2 p2 p
      obtain ⟨h, h3⟩ := Bool.and_eq_true_iff.mp h
      obtain ⟨h1, h2⟩ := Bool.and_eq_true_iff.mp h
      cases x with
      | Name nx px =>
        cases y with
        | Name ny py =>
          simp only [chkPair, Bool.and_eq_true, decide_eq_true_eq, Bool.not_eq_true', beq_eq_false_iff_ne] at h1
          obtain ⟨⟨⟨⟨⟨⟨⟨⟨⟨⟨c1, c2⟩, c3⟩, c4⟩, c5⟩, c6⟩, c7⟩, c8⟩, c9⟩, c10⟩, c11⟩ := h1
          have l1 : X.env.scope.names.lookup nx = some .local := by rw [f.hsc]; exact isLoc_by c4
          have l2 : X.env.scope.names.lookup ny = some .local := by rw [f.hsc]; exact isLoc_by c5
          have hk : X.env.scope.kind = .function := by rw [f.hsc]; exact f.kind
          have e2 := star_cons (es := []) (env := X.env) c9
          exact s_pair f.calm f.nd (by rw [f.hN]; exact c1) (by rw [f.hN]; exact c2) c3 l1 l2 (sE a X sc u f h2).pe (sE b X sc w f h3).pe (star_cons c8) e2 (swp hk l1 l2 c6 c7 c8 c9 c10 c11)
        | _ => cases h1
      | _ => cases h1
    · cases h
  | .seti i kx e, X, sc, s, f, g, hp, h => by
    unfold chkS at h
    split at h
    · obtain ⟨h, h4⟩ := Bool.and_eq_true_iff.mp h
      obtain ⟨h, h3⟩ := Bool.and_eq_true_iff.mp h
      obtain ⟨h1, h2⟩ := Bool.and_eq_true_iff.mp h
      obtain ⟨x, px, n⟩ := nm_by f h1
      exact s_seti n.pe (sE kx X sc _ f h3).v (sE e X sc _ f h4).w (sub_assign h2)
    · cases h
  | .app i e, X, sc, s, f, g, hp, h => by
    unfold chkS at h
    split at h
    · obtain ⟨h, h5⟩ := Bool.and_eq_true_iff.mp h
      obtain ⟨h, h4⟩ := Bool.and_eq_true_iff.mp h
      obtain ⟨h, h3⟩ := Bool.and_eq_true_iff.mp h
      obtain ⟨h1, h2⟩ := Bool.and_eq_true_iff.mp h
      have h1 := of_decide_eq_true h1
      subst h1
      obtain ⟨x, px, n⟩ := nm_by f h3
      exact s_app n.pe (sE e X sc _ f h5).w n.base (star_cons h4) h2
    · cases h
  | .ext i e, X, sc, s, f, g, hp, h => by
    unfold chkS at h
    split at h
    · obtain ⟨h, h5⟩ := Bool.and_eq_true_iff.mp h
      obtain ⟨h, h4⟩ := Bool.and_eq_true_iff.mp h
      obtain ⟨h, h3⟩ := Bool.and_eq_true_iff.mp h
      obtain ⟨h1, h2⟩ := Bool.and_eq_true_iff.mp h
      have h1 := of_decide_eq_true h1
      subst h1
      obtain ⟨x, px, n⟩ := nm_by f h3
      exact s_ext n.pe (sE e X sc _ f h5).w n.base (star_cons h4) h2
    · cases h
  | .expr e, X, sc, s, f, g, hp, h => by
    cases s with
    | Expr v p =>
      obtain ⟨h1, h2⟩ := Bool.and_eq_true_iff.mp (show (notComp v && chkE C sc e v) = true from h)
      exact s_expr (sE e X sc v f h2).pe (swaps_by h1)
    | _ => cases h
  | .ife c a b, X, sc, s, f, g, hp, h => by
    cases s with
    | If t x y p =>
      obtain ⟨h, h3⟩ := Bool.and_eq_true_iff.mp (show (chkE C sc c t && chkSs C sc a x && chkSs C sc b y) = true from h)
      obtain ⟨h1, h2⟩ := Bool.and_eq_true_iff.mp h
      exact s_if (sE c X sc t f h1).pt (sSs a X sc x f g hp h2) (sSs b X sc y f g hp h3)
    | _ => cases h
  | .for_ it tg b, X, sc, s, f, g, hp, h => by
    cases s with
    | For t iter body orelse p =>
      cases orelse with
      | nil =>
        obtain ⟨h, h4⟩ := Bool.and_eq_true_iff.mp (show (chkI C sc it t iter && chkTg C sc tg t && chkSs C sc b body && notSet iter) = true from h)
        obtain ⟨h, h3⟩ := Bool.and_eq_true_iff.mp h
        obtain ⟨h1, h2⟩ := Bool.and_eq_true_iff.mp h
        exact s_for hp f.calm (sI it X sc t iter f h1) (tg_by f g h2) (sSs b X sc body f g hp h3) (folded_by h4)
      | cons _ _ => cases h
    | _ => cases h
  | .while_ n c b, X, sc, s, f, g, hp, h => by
    cases s with
    | While t body orelse p =>
      cases orelse with
      | nil =>
        obtain ⟨h1, h2⟩ := Bool.and_eq_true_iff.mp (show (chkE C sc c t && chkSs C sc b body) = true from h)
        exact s_while hp (sE c X sc t f h1).pt (sSs b X sc body f g hp h2)
      | cons _ _ => cases h
    | _ => cases h
  | .ret e, X, sc, s, f, g, hp, h => by
    cases s with
    | Return v p =>
      cases v with
      | none => cases h
      | some v => exact s_ret (sE e X sc v f h).pe
    | _ => cases h
  | .retN, X, sc, s, f, g, hp, h => by
    cases s with
    | Return v p =>
      cases v with
      | none => exact s_retN
      | some v => cases h
    | _ => cases h
  | .brk, X, sc, s, f, g, hp, h => by
    cases s with
    | Break p => exact s_brk
    | _ => cases h
  | .cnt, X, sc, s, f, g, hp, h => by
    cases s with
    | Continue p => exact s_cnt
    | _ => cases h
  | .pass, X, sc, s, f, g, hp, h => by
    cases s with
    | Pass p => exact s_pass
    | _ => cases h
theorem sSs : ∀ (is : ISs) (X : Cx) (sc : Scope) (ss : List Stmt), Fits X cl C F k sc → StF X sc → PassesOwn (model X.prog X.w) X.A X.env X.xe → chkSs C sc is ss = true → PSs X ss (tS (gm X cl) (evSs F is))
  | .nil, X, sc, ss, f, g, hp, h => by
    cases ss with
    | nil => exact s_snil
    | cons _ _ => cases h
  | .cons a as, X, sc, ss, f, g, hp, h => by
    cases ss with
    | nil => cases h
    | cons s ss =>
      obtain ⟨h1, h2⟩ := Bool.and_eq_true_iff.mp (show (chkS C sc a s && chkSs C sc as ss) = true from h)
      exact s_scons (sS a X sc s f g hp h1) (sSs as X sc ss f g hp h2)
end
end
end Tk

set_option Elab.async false
set_option linter.all false
set_option autoImplicit false
set_option maxRecDepth 100000
set_option maxHeartbeats 4000000
/-! Ir24: the defs of a program. -/
namespace Tk
open PySem PySem.Spec
open L2 hiding St

structure Def where
  name : Str
  /-- the parameters, then the other names -/
  ps : List Str
  N : List Str
  kws : List (Nat × List Str × List Nat) := []
  body : ISs
/-- what the i-th def gives, calls nested less than the first argument deep -/
def evN (ds : List Def) : Nat → Nat → Fn
  | 0, _ => fun _ => .stuck
  | n + 1, i => match ds[i]? with
    | some d => runF (evN ds n) d.ps.length d.N.length d.body
    | none => fun _ => .stuck
def ckOf (ds : List Def) (d : Def) : Ck := ⟨d.N, ds.map fun d => ⟨d.name, d.kws⟩⟩
def fsB (N ps : List Str) (sc : Scope) : Bool :=
  (match sc.kind with | .function => true | _ => false) && !sc.isCoroutine && !sc.isGenerator && decide N.Nodup && decide (N.take ps.length = ps) && ps.all (locB sc) && sc.names.all fun y => match y.2 with | .free => false | _ => true
theorem fs_by {N ps : List Str} {sc : Scope} (h : fsB N ps sc = true) : FnScope N ps sc := by
  unfold fsB at h
  simp only [Bool.and_eq_true, Bool.not_eq_true', decide_eq_true_eq, List.all_eq_true] at h
  obtain ⟨⟨⟨⟨⟨⟨h1, h2⟩, h3⟩, h4⟩, h5⟩, h6⟩, h7⟩ := h
  refine ⟨?_, h2, h3, h4, h5, fun x hx => loc_by (h6 x hx), fun y hy e => ?_⟩
  · split at h1
    · assumption
    · cases h1
  · have := h7 y hy
    rw [e] at this
    cases this
def chkD (ds : List Def) (d : Def) (st : Stmt) : Bool := fsB d.N d.ps (defScope st) && chkSs (ckOf ds d) (defScope st) d.body (defBody st)
/-- how it binds -/
structure BindOk (d : Def) (st : Stmt) : Prop where
  pos : ∀ (kV doc pm : Value) (an : Option Addr) (cdv ct : Value) (us : List Value), us.length = d.ps.length → bindArgs (PySem.W.fnOf d.name d.name (defArgs st) (defBody st) (defScope st) .none kV doc pm an cdv ct) ⟨us, []⟩ = pure (d.ps.zip us)
  kw : ∀ q ∈ d.kws, ∀ (kV doc pm : Value) (an : Option Addr) (cdv ct : Value) (us ws : List Value), us.length = q.1 → ws.length = q.2.1.length →
    bindArgs (PySem.W.fnOf d.name d.name (defArgs st) (defBody st) (defScope st) .none kV doc pm an cdv ct) ⟨us, q.2.1.zip ws⟩ = pure (d.ps.zip (gP q.2.2 us ws))
/-- .. and where it stands -/
structure At (K : PySem.W.Frag) (mg : Str → Option Value) (ds : List Def) (d : Def) (st : Stmt) (f : Addr) : Prop where
  fn : ∃ fd, L2.Fun K d.name d.name st f fd
  mgf : mg d.name = some (.ref f)
  chk : chkD ds d st = true
  bind : BindOk d st
inductive Ats (K : PySem.W.Frag) (mg : Str → Option Value) (ds : List Def) : List Def → Prop
  | nil : Ats K mg ds []
  | cons {d : Def} {st : Stmt} {f : Addr} {r : List Def} : At K mg ds d st f → Ats K mg ds r → Ats K mg ds (d :: r)
theorem Ats.get {K : PySem.W.Frag} {mg : Str → Option Value} {ds : List Def} : ∀ {l : List Def} {i : Nat} {d : Def}, Ats K mg ds l → l[i]? = some d → ∃ st f, At K mg ds d st f
  | _, _, _, .nil, h => by simp at h
  | _, 0, _, .cons a _, h => by simp at h; subst h; exact ⟨_, _, a⟩
  | _, i + 1, _, .cons _ t, h => Ats.get t (by simpa using h)
section
variable {P : Program} {w : World} {K : PySem.W.Frag} {mg : Str → Option Value} {base : Heap} {cl : Nat → Addr} {ds : List Def}
theorem At.binds {d : Def} {st : Stmt} {f : Addr} {fd : FuncData} (a : At K mg ds d st f) (h : L2.Fun K d.name d.name st f fd) : Binds K fd d.ps [] ∧ ∀ q ∈ d.kws, KwTo K fd d.ps q.1 q.2.1 q.2.2 := by
  obtain ⟨oc, od, kV, doc, pm, an, cdv, ct, osl, rfl, lk, hcd⟩ := h.ex
  exact ⟨.all (a.bind.pos kV doc pm an cdv ct), fun q hq us ws l1 l2 => a.bind.kw q hq kV doc pm an cdv ct us ws l1 l2⟩
theorem fn_never {k : Nat} {f : Addr} {fd : FuncData} {ps : List Str} {Γ : Gm} {G : Fn} (h : ∀ args, G args = .stuck) : FnOk P w K mg base CX0 k f fd ps (spOf Γ G) :=
  ⟨fun vs H Q E z => by
    obtain ⟨G', args, _, _, m⟩ := z
    rw [h] at m
    exact m.elim, fun A outer s H args us vs Q E _ _ _ _ z => by
    obtain ⟨G', args, _, _, m⟩ := z
    rw [h] at m
    exact m.elim⟩
/-- every def keeps its promise -/
theorem all_ok (bl : ∀ x ∈ blNames, mg x = none) (A : Ats K mg ds ds) : ∀ (n i : Nat) (d : Def), ds[i]? = some d → ∃ st f fd, At K mg ds d st f ∧ L2.Fun K d.name d.name st f fd ∧ FnOk P w K mg base CX0 (n + 1) f fd d.ps (spOf ⟨P, w, K, mg, base, cl⟩ (evN ds n i))
  | 0, i, d, h => by
    obtain ⟨st, f, a⟩ := A.get h
    obtain ⟨fd, hf⟩ := a.fn
    exact ⟨st, f, fd, a, hf, fn_never fun _ => rfl⟩
  | n + 1, i, d, h => by
    obtain ⟨st, f, a⟩ := A.get h
    obtain ⟨fd, hf⟩ := a.fn
    refine ⟨st, f, fd, a, hf, ?_⟩
    have ev : evN ds (n + 1) i = runF (evN ds n) d.ps.length d.N.length d.body := by
      simp only [evN, h]
    rw [ev]
    obtain ⟨c1, c2⟩ := Bool.and_eq_true_iff.mp (show (fsB d.N d.ps (defScope st) && chkSs (ckOf ds d) (defScope st) d.body (defBody st)) = true from a.chk)
    have Sc := fs_by c1
    obtain ⟨oc, od, kV, doc, pm, an, cdv, ct, osl, rfl, lk, hcd⟩ := hf.ex
    refine fn_ok lk hcd Sc fun X e1 e2 e3 e4 e5 e6 e7 e8 e9 hr hp => ?_
    have fits : Fits X cl (ckOf ds d) (evN ds n) (n + 1) (defScope st) := by
      refine ⟨e6, by rw [e6]; exact Sc.nd, e7, Sc.kind, e8, hr, fun x hx => by rw [e4]; exact bl x hx, fun j t ht => ?_⟩
      have ht : (ds.map fun d => (⟨d.name, d.kws⟩ : FnI))[j]? = some t := ht
      rw [List.getElem?_map] at ht
      cases q : ds[j]? with
      | none => rw [q] at ht; cases ht
      | some d2 =>
        rw [q] at ht
        cases ht
        obtain ⟨st2, f2, fd2, a2, hf2, ok2⟩ := all_ok bl A n j d2 q
        obtain ⟨b1, b2⟩ := a2.binds hf2
        refine ⟨f2, d2.ps, fd2, ?_, by rw [e4]; exact a2.mgf, by rw [e3]; exact hf2.kp, by rw [e3]; exact b1, fun q hq => by rw [e3]; exact b2 q hq⟩
        show FnOk X.prog X.w X.K X.mg X.base CX0 (n + 1) f2 fd2 d2.ps (spOf ⟨X.prog, X.w, X.K, X.mg, X.base, cl⟩ (evN ds n j))
        rw [e1, e2, e3, e4, e5]
        exact ok2
    exact sSs d.body X (defScope st) (defBody st) fits ⟨fun x k _ hx => by rw [e7]; exact hx, fun x _ => by rw [e9]⟩ hp c2
end
/-- the law holds: its def gives True -/
def spTrue (K : PySem.W.Frag) : Sp := fun vs H Q _ => ∃ (a : Addr) (ns : List Int), vs = [.ref a] ∧ SqL K H a (ns.map V.int) ∧ ns.length ≤ 63 ∧ ∀ H', Q (.bl true) H'
theorem law_sp {Γ : Gm} {G : Fn} (h : ∀ ns : List Int, ns.length ≤ 63 → ∃ outs, G [.d (.scr ns)] = .ok (.d (.bl true)) outs) (vs : List V) (H : Hp) (Q : VK) (E : XK) (z : spTrue Γ.K vs H Q E) : spOf Γ G vs H Q E := by
  obtain ⟨a, ns, rfl, hS, hl, k⟩ := z
  obtain ⟨outs, e⟩ := h ns hl
  refine ⟨H, [.d (.scr ns)], ⟨rfl, .refl _, fun i s hs => ?_, fun i j s s' c c' h1 h2 => ?_⟩, fun c hc => by simp at hc, ?_⟩
  · cases i with
    | zero =>
      have hs : S.d (.scr ns) = s := by simpa [ens] using hs
      subst hs
      exact ⟨_, rfl, Rep.scr hS⟩
    | succ i => simp [ens] at hs
  · cases i with
    | zero =>
      have hs : S.d (.scr ns) = s := by simpa [ens] using h1
      subst hs
      cases h2
    | succ i => simp [ens] at h1
  · rw [e]
    intro v G' H' _ rr _
    have rr : Rep Γ G' v (.bl true) := rr
    cases rr
    exact k H'
end Tk

set_option Elab.async false
set_option linter.all false
set_option autoImplicit false
set_option maxRecDepth 100000
set_option maxHeartbeats 4000000
/-! Ir25: the head's end. -/
namespace Tk
open PySem PySem.Spec
open L2 hiding St

/-- a def as the written part has it -/
structure Fct (K : PySem.W.Frag) (name : Str) (st : Stmt) : Prop where
  ex : ∃ (f : Addr) (oc : Value) (od : Option Addr) (kV doc pm : Value) (an : Option Addr) (cdv ct : Value) (osl : Array (Option Value)), PySem.W.nsIn K mainGlobals name = some (some (.ref f)) ∧
    K.lookup f = some ⟨oc, od, .func (PySem.W.fnOf name name (defArgs st) (defBody st) (defScope st) .none kV doc pm an cdv ct), osl⟩ ∧ PySem.W.codeIn K cdv name = true ∧ PySem.W.keepIn K (.ref f) = true
theorem fct {K : PySem.W.Frag} {name : Str} {st : Stmt} {f : Addr} {oc : Value} {od : Option Addr} {kV doc pm : Value} {an : Option Addr} {cdv ct : Value} {osl : Array (Option Value)} (a : PySem.W.nsIn K mainGlobals name = some (some (.ref f)))
    (l : K.lookup f = some ⟨oc, od, .func (PySem.W.fnOf name name (defArgs st) (defBody st) (defScope st) .none kV doc pm an cdv ct), osl⟩) (c : PySem.W.codeIn K cdv name = true) (k : PySem.W.keepIn K (.ref f) = true) : Fct K name st :=
  ⟨f, oc, od, kV, doc, pm, an, cdv, ct, osl, a, l, c, k⟩
theorem Fct.at {K : PySem.W.Frag} {mg : Str → Option Value} {h : Heap} {ds : List Def} {d : Def} {st : Stmt} (F : Fct K d.name st) (X : K.In h) (G : h.Ns mainGlobals mg) (hc : chkD ds d st = true) (hb : BindOk d st) : ∃ f, At K mg ds d st f := by
  obtain ⟨f, oc, od, kV, doc, pm, an, cdv, ct, osl, a, l, c, k⟩ := F.ex
  exact ⟨f, ⟨_, fun_mk l c k⟩, PySem.W.mg_of X G a, hc, hb⟩
theorem ats_cons {K : PySem.W.Frag} {mg : Str → Option Value} {h : Heap} {ds r : List Def} {d : Def} {st : Stmt} (F : Fct K d.name st) (X : K.In h) (G : h.Ns mainGlobals mg) (hc : chkD ds d st = true) (hb : BindOk d st) (t : Ats K mg ds r) : Ats K mg ds (d :: r) :=
  let ⟨_, a⟩ := F.at X G hc hb
  .cons a t
theorem bl_none {K : PySem.W.Frag} {mg : Str → Option Value} {h : Heap} (X : K.In h) (G : h.Ns mainGlobals mg) (z1 : PySem.W.nsIn K mainGlobals "len" = some none) (z2 : PySem.W.nsIn K mainGlobals "int" = some none) (z3 : PySem.W.nsIn K mainGlobals "bool" = some none)
    (z4 : PySem.W.nsIn K mainGlobals "list" = some none) (z5 : PySem.W.nsIn K mainGlobals "tuple" = some none) (z6 : PySem.W.nsIn K mainGlobals "all" = some none) (z7 : PySem.W.nsIn K mainGlobals "any" = some none) (z8 : PySem.W.nsIn K mainGlobals "sorted" = some none)
    (z9 : PySem.W.nsIn K mainGlobals "range" = some none) (z10 : PySem.W.nsIn K mainGlobals "enumerate" = some none) (z11 : PySem.W.nsIn K mainGlobals "zip" = some none) : ∀ x ∈ blNames, mg x = none := by
  have m : ∀ {x : Str}, PySem.W.nsIn K mainGlobals x = some none → mg x = none := fun z => PySem.W.mg_none_of X G z
  intro x hx
  unfold blNames at hx
  simp only [List.mem_cons, List.not_mem_nil, or_false] at hx
  rcases hx with rfl | rfl | rfl | rfl | rfl | rfl | rfl | rfl | rfl | rfl | rfl
  · exact m z1
  · exact m z2
  · exact m z3
  · exact m z4
  · exact m z5
  · exact m z6
  · exact m z7
  · exact m z8
  · exact m z9
  · exact m z10
  · exact m z11
theorem walk {l : PySem.W.OpenLaw} {q : Program} {loose : List Str} {XP : (Str → Option Value) → Heap → Prop} {YP : World → Heap → Prop} {d : DefRec} {K : Params → PySem.W.Frag} {ds : List Def} {dl : Def} {i n : Nat} (hn : l.most = some 63) (hdf : d.params.defaults = [])
    (hr : Room (n + 1) callerA) (hY : ∀ (w : World) (h : Heap), YP w h → (K w.params).In h) (hi : ds[i]? = some dl) (nm : dl.name = d.name) (np : dl.ps = [("script" : Str)])
    (hlaw : ∀ ns : List Int, ns.length ≤ 63 → ∃ outs, evN ds n i [.d (.scr ns)] = .ok (.d (.bl true)) outs)
    (F : ∀ (w : World) (mg : Str → Option Value) (h : Heap), (K w.params).In h → h.Ns mainGlobals mg → (∀ x ∈ blNames, mg x = none) ∧ Ats (K w.params) mg ds ds) :
    PySem.W.WalkO q loose XP YP l.row.toRowW d [] (fun f vs => PySem.call f vs) := by
  refine L2.walk_of (n := 63) (k := n + 1) (x := "script") (CX := fun _ => Tk.CX0) (sp := fun w => spTrue (K w.params)) hn (by decide) hdf hr hY (fun w mg fa h KX G hfa => ?_) (fun _ _ a ns hl _ hS => ⟨a, ns, rfl, hS, hl, fun _ => rfl⟩) fun _ _ _ _ _ z => z
  obtain ⟨bl, A⟩ := F w mg h KX G
  obtain ⟨st, f, a⟩ := A.get hi
  obtain ⟨fd, hf⟩ := a.fn
  have ef : f = fa := by
    have e1 := a.mgf
    rw [nm, hfa] at e1
    cases e1
    rfl
  subst ef
  refine ⟨fd, fun s u => ?_, fun base KB GB => ?_⟩
  · obtain ⟨oc, od, kV, doc, pm, an, cdv, ct, osl, rfl, lk, hcd⟩ := hf.ex
    have e := a.bind.pos kV doc pm an cdv ct [u] (by rw [np]; rfl)
    rw [np] at e
    exact .of_eq e
  · obtain ⟨st', f', fd', a', hf', ok⟩ := all_ok (P := l.prog) (w := w) (base := base) (cl := fun _ => 0) bl A n i dl hi
    have ef : f' = f := by
      have e1 := a.mgf
      rw [a'.mgf] at e1
      cases e1
      rfl
    subst ef
    have efd : fd' = fd := by
      obtain ⟨oc, od, kV, doc, pm, an, cdv, ct, osl, e1, lk, _⟩ := hf.ex
      obtain ⟨oc', od', kV', doc', pm', an', cdv', ct', osl', e1', lk', _⟩ := hf'.ex
      rw [lk] at lk'
      cases lk'
      rfl
    subst efd
    rw [np] at ok
    exact ok.imp (law_sp (Γ := ⟨l.prog, w, K w.params, mg, base, fun _ => 0⟩) hlaw)
end Tk

set_option Elab.async false
set_option linter.all false
set_option autoImplicit false
set_option maxRecDepth 100000
set_option maxHeartbeats 4000000
/-! Ir26: plain evaluation: what changes nothing. -/
namespace Tk
open PySem

section
variable {F : FE} {env : En} {a b c : IE} {x y z : D} {k j : Bool} {r : R}
/-- the expression gives the datum and changes nothing -/
abbrev Vx (F : FE) (a : IE) (env : En) (x : D) : Prop := (evE F a env).frz = .ok (.d x) env
theorem vx_raw (h : Vx F a env x) : ∃ r, evE F a env = .ok r env ∧ r.frz = .d x := by
  unfold Vx Res.frz at h
  cases q : evE F a env with
  | stuck => rw [q] at h; cases h
  | exc e s => rw [q] at h; cases h
  | ok r s =>
    rw [q, Res.bind_ok] at h
    injection h with h1 h2
    subst h2
    exact ⟨r, rfl, h1⟩
theorem vx_of (e : evE F a env = .ok r env) (h : r.frz = .d x) : Vx F a env x := by
  unfold Vx Res.frz
  rw [e, Res.bind_ok, h]
theorem vx_val (h : Vx F a env x) : (evE F a env).val = .ok x env := by
  obtain ⟨r, e, h⟩ := vx_raw h
  unfold Res.val
  rw [e, Res.bind_ok, h]
  rfl
theorem vx_tru (h : Vx F a env (.bl k)) : (evE F a env).tru = .ok k env := by
  obtain ⟨r, e, h⟩ := vx_raw h
  unfold Res.tru
  rw [e, Res.bind_ok, h]
  rfl
theorem vx_var {i : Nat} (h : env[i]? = some (some (.d x))) : Vx F (.var i) env x := vx_of (r := .d x) (by simp only [evE, h]) rfl
theorem vx_con : Vx F (.con x) env x := vx_of (r := .d x) (by simp only [evE]) rfl
theorem vx_bin {o : BOp} (ha : Vx F a env x) (hb : Vx F b env y) (h : binD o x y = some r) (hr : r.frz = .d z) : Vx F (.bin o a b) env z :=
  vx_of (r := r) (by simp only [evE, ha, hb, Res.bind_ok, val, Option.bind, h, lift]) hr
theorem vx_cmp {o : COp} (ha : Vx F a env x) (hb : Vx F b env y) (h : cmpD o x y = some k) : Vx F (.cmp o a b) env (.bl k) :=
  vx_of (r := .d (.bl k)) (by simp only [evE, ha, hb, Res.bind_ok, val, Option.bind, h, lift, Option.map]) rfl
theorem vx_bi {f : Bi} (ha : Vx F a env x) (h : biD f x = some r) (hr : r.frz = .d z) : Vx F (.bi f a) env z :=
  vx_of (r := r) (by simp only [evE, ha, Res.bind_ok, val, Option.bind, h, lift]) hr
theorem vx_idx (ha : Vx F a env x) (hb : Vx F b env y) (h : idxD x y = some z) : Vx F (.idx a b) env z :=
  vx_of (r := .d z) (by simp only [evE, ha, hb, Res.bind_ok, val, Option.bind, h, lift, Option.map]) rfl
theorem vx_not (ha : Vx F a env (.bl k)) : Vx F (.not1 a) env (.bl (!k)) := vx_of (r := .d (.bl (!k))) (by simp only [evE, vx_tru ha, Res.bind_ok]) rfl
theorem vx_and (ha : Vx F a env (.bl k)) (hb : k = true → Vx F b env (.bl j)) : Vx F (.and2 a b) env (.bl (k && j)) := by
  cases k with
  | true =>
    obtain ⟨r, e, h⟩ := vx_raw (hb rfl)
    exact vx_of (r := r) (by simp only [evE, ha, Res.bind_ok, val, Option.bind, lift, truthD, if_true, e]) h
  | false => exact vx_of (r := .d (.bl false)) (by simp only [evE, ha, Res.bind_ok, val, Option.bind, lift, truthD, Bool.false_eq_true, if_false, W.r]) rfl
theorem vx_or (ha : Vx F a env (.bl k)) (hb : k = false → Vx F b env (.bl j)) : Vx F (.or2 a b) env (.bl (k || j)) := by
  cases k with
  | false =>
    obtain ⟨r, e, h⟩ := vx_raw (hb rfl)
    exact vx_of (r := r) (by simp only [evE, ha, Res.bind_ok, val, Option.bind, lift, truthD, Bool.false_eq_true, if_false, e]) h
  | true => exact vx_of (r := .d (.bl true)) (by simp only [evE, ha, Res.bind_ok, val, Option.bind, lift, truthD, if_true, W.r]) rfl
theorem vx_ife (hc : Vx F c env (.bl k)) (ha : k = true → Vx F a env x) (hb : k = false → Vx F b env x) : Vx F (.ife c a b) env x := by
  cases k with
  | true =>
    obtain ⟨r, e, h⟩ := vx_raw (ha rfl)
    exact vx_of (r := r) (by simp only [evE, vx_tru hc, Res.bind_ok, if_true, e]) h
  | false =>
    obtain ⟨r, e, h⟩ := vx_raw (hb rfl)
    exact vx_of (r := r) (by simp only [evE, vx_tru hc, Res.bind_ok, Bool.false_eq_true, if_false, e]) h
/-! slices -/
abbrev Ox (F : FE) (o : IO) (env : En) (v : Option Int) : Prop := evO F o env = .ok v env
theorem ox_none : Ox F .none env none := by simp only [Ox, evO]
theorem ox_some {i : Int} (h : Vx F a env (.int i)) : Ox F (.some a) env (some i) := by simp only [Ox, evO, vx_val h, Res.bind_ok]
theorem vx_slc {lo hi : IO} {l h' : Option Int} (ha : Vx F a env x) (hl : Ox F lo env l) (hh : Ox F hi env h') (h : slcD x l h' = some r) (hr : r.frz = .d z) : Vx F (.slc a lo hi) env z :=
  vx_of (r := r) (by simp only [evE, ha, hl, hh, Res.bind_ok, val, Option.bind, h, lift]) hr
/-! displays -/
abbrev Vxs (F : FE) (es : IEs) (env : En) (xs : List D) : Prop := evEs F es env = .ok (xs.map W.d) env
theorem vxs_nil : Vxs F .nil env [] := by simp only [Vxs, evEs, List.map_nil]
theorem vxs_cons {es : IEs} {xs : List D} (ha : Vx F a env x) (hs : Vxs F es env xs) : Vxs F (.cons a es) env (x :: xs) := by
  have ha : (evE F a env).frz = .ok (.d x) env := ha
  have hs : evEs F es env = .ok (xs.map W.d) env := hs
  simp only [Vxs, evEs, ha, hs, Res.bind_ok, List.map_cons]
theorem allD_map : ∀ xs : List D, allD (xs.map W.d) = some xs
  | [] => rfl
  | x :: xs => by simp only [List.map_cons, allD, allD_map xs, Option.map]
theorem vx_tup {es : IEs} {xs : List D} (h : Vxs F es env xs) (hz : xs.length ≤ sizeLine) : Vx F (.tup es) env (.tup xs) :=
  vx_of (r := .d (.tup xs)) (by
    have h : evEs F es env = .ok (xs.map W.d) env := h
    simp only [evE, h, Res.bind_ok, allD_map, Option.bind, hz, if_true, lift]) rfl
theorem vx_lst {es : IEs} {xs : List D} (h : Vxs F es env xs) (hz : xs.length ≤ sizeLine) : Vx F (.lst es) env (.lst xs) :=
  vx_of (r := .own (.lst xs)) (by
    have h : evEs F es env = .ok (xs.map W.d) env := h
    simp only [evE, h, Res.bind_ok, allD_map, Option.bind, hz, if_true, lift]) rfl
/-! calls -/
abbrev Ax (F : FE) (as : IAs) (env : En) (xs : List D) : Prop := evAs F as env = .ok (xs.map Arg.d) env
theorem ax_nil : Ax F .nil env [] := by simp only [Ax, evAs, List.map_nil]
theorem ax_cons {as : IAs} {xs : List D} (ha : Vx F a env x) (hs : Ax F as env xs) : Ax F (.v a as) env (x :: xs) := by
  have ha : (evE F a env).frz = .ok (.d x) env := ha
  have hs : evAs F as env = .ok (xs.map Arg.d) env := hs
  simp only [Ax, evAs, ha, hs, Res.bind_ok, List.map_cons]
/-- a def gives the datum, whatever it makes anew -/
def PF (f : Fn) (xs : List D) (x : D) : Prop := ∃ s, f (xs.map S.d) = .ok s [] ∧ ((∃ y, s = .d y ∧ y = x) ∨ ∃ c, s = .own c ∧ c.toD = x)
theorem argsS_map : ∀ xs : List D, argsS env (xs.map Arg.d) = some (xs.map S.d)
  | [] => rfl
  | x :: xs => by simp only [List.map_cons, argsS, argS, argsS_map xs]
theorem refs_map : ∀ xs : List D, refsOf (xs.map Arg.d) = []
  | [] => rfl
  | x :: xs => refs_map xs
theorem ios_map : ∀ xs : List D, iosOf (xs.map Arg.d) = []
  | [] => rfl
  | x :: xs => ios_map xs
theorem sn_map : ∀ xs : List D, hasSn (xs.map Arg.d) = false
  | [] => rfl
  | x :: xs => sn_map xs
theorem callR_pure {f : Fn} {xs : List D} (h : PF f xs x) : ∃ r, callR f (xs.map Arg.d) env = .ok r env ∧ r.frz = .d x := by
  obtain ⟨s, e, h⟩ := h
  unfold callR
  rw [argsS_map]
  dsimp only
  rw [refs_map, if_pos List.nodup_nil, e]
  rcases h with ⟨y, rfl, rfl⟩ | ⟨c, rfl, rfl⟩
  · exact ⟨.d y, by simp only [callE, ios_map, putBack, sn_map, Bool.false_eq_true, if_false], rfl⟩
  · exact ⟨.own c, by simp only [callE, ios_map, putBack, sn_map, Bool.false_eq_true, if_false], rfl⟩
theorem permArgs_map {α β : Type} (g : α → β) (l : List α) : ∀ p : List Nat, permArgs (l.map g) p = (permArgs l p).map (List.map g)
  | [] => rfl
  | i :: p => by
    simp only [permArgs, List.getElem?_map, permArgs_map g l p]
    cases l[i]? <;> cases permArgs l p <;> rfl
theorem vx_call {n : Nat} {as kw : IAs} {perm : List Nat} {xs ys zs : List D} (ha : Ax F as env xs) (hk : Ax F kw env ys) (hp : permA (xs ++ ys) perm = some zs) (h : PF (F n) zs x) : Vx F (.call n as kw perm) env x := by
  obtain ⟨r, e, h⟩ := callR_pure (env := env) h
  refine vx_of (r := r) ?_ h
  have ha : evAs F as env = .ok (xs.map Arg.d) env := ha
  have hk : evAs F kw env = .ok (ys.map Arg.d) env := hk
  have hp2 : permA (xs.map Arg.d ++ ys.map Arg.d) perm = some (zs.map Arg.d) := by
    rw [← List.map_append]
    unfold permA at hp ⊢
    by_cases q : perm.isEmpty = true
    · rw [if_pos q] at hp ⊢; cases hp; rfl
    · rw [if_neg q] at hp ⊢; rw [permArgs_map, hp]; rfl
  simp only [evE, ha, hk, Res.bind_ok, hp2, e]
/-! comprehensions -/
theorem set_self_eq {α : Type} (l : List α) (i : Nat) (d : α) (h : ∀ y, l[i]? = some y → d = y) : l.set i d = l := by
  apply List.ext_getElem?
  intro j
  rw [get_set]
  by_cases hij : i = j
  · subst hij
    rw [if_pos rfl]
    by_cases hl : i < l.length
    · rw [if_pos hl, List.getElem?_eq_getElem hl]
      rw [h _ (List.getElem?_eq_getElem hl)]
    · rw [if_neg hl, List.getElem?_eq_none (by omega)]
  · rw [if_neg hij]
theorem back_one {i : Nat} {o : Option S} : backE env (env.set i o) [i] = env := by
  show (env.set i o).set i _ = env
  rw [List.set_set]
  exact set_self_eq env i _ fun y h => by rw [h]
theorem back_id {i : Nat} : backE env env [i] = env := set_self_eq env i _ fun y h => by rw [h]
theorem lcGo_pure {i : Nat} {ec : En → Res En Bool} {ee : En → Res En R} {p : D → Bool} {f : D → D} : ∀ (items : List D) (o : Option S),
    (∀ x ∈ items, ec (env.set i (some (.d x))) = .ok (p x) (env.set i (some (.d x)))) → (∀ x ∈ items, p x = true → (ee (env.set i (some (.d x)))).frz = .ok (.d (f x)) (env.set i (some (.d x)))) →
    ∃ o', lcGo (.name i) [i] ec ee items (env.set i o) = .ok ((items.filter p).map f) (env.set i o')
  | [], o, _, _ => ⟨o, rfl⟩
  | x :: r, o, hc, he => by
    have e0 : bindT (.name i) x (wipeE (env.set i o) [i]) = some (env.set i (some (.d x))) := by
      show some ((((env.set i o)).set i none).set i (some (.d x))) = _
      rw [List.set_set, List.set_set]
    obtain ⟨o', ih⟩ := lcGo_pure (ec := ec) (ee := ee) (p := p) (f := f) r (some (.d x)) (fun y hy => hc y (List.mem_cons_of_mem _ hy)) fun y hy => he y (List.mem_cons_of_mem _ hy)
    refine ⟨o', ?_⟩
    have h1 := hc x List.mem_cons_self
    simp only [lcGo, e0, h1, Res.bind_ok]
    cases hp : p x with
    | true =>
      have h2 := he x List.mem_cons_self hp
      simp only [if_true, h2, Res.bind_ok, ih, List.filter_cons, hp, List.map_cons]
    | false => simp only [Bool.false_eq_true, if_false, ih, List.filter_cons, hp]
abbrev Ix (F : FE) (it : II) (env : En) (xs : List D) : Prop := evI F it env = .ok xs env
theorem ix_seq {xs : List D} (h : Vx F a env x) (hi : itemsD x = some xs) : Ix F (.seq a) env xs := by
  have h : (evE F a env).frz = .ok (.d x) env := h
  simp only [Ix, evI, h, Res.bind_ok, hi, lift]
theorem vx_lc {it : II} {i : Nat} {cnd : IO} {items ys : List D} {p : D → Bool} {f : D → D} (hi : Ix F it env items) (hc : ∀ x ∈ items, evIfs F cnd (env.set i (some (.d x))) = .ok (p x) (env.set i (some (.d x))))
    (he : ∀ x ∈ items, p x = true → Vx F a (env.set i (some (.d x))) (f x)) (hy : (items.filter p).map f = ys) : Vx F (.lc it (.name i) [i] cnd a) env (.lst ys) := by
  subst hy
  have hi : evI F it env = .ok items env := hi
  have e2 : evE F (.lc it (.name i) [i] cnd a) env = (evI F it env).bind fun items env1 => (lcGo (.name i) [i] (evIfs F cnd) (fun en => evE F a en) items env1).bind fun ys env2 => .ok (.own (.lst ys)) (backE env1 env2 [i]) := by
    simp only [evE]
    rfl
  refine vx_of (r := .own (.lst ((items.filter p).map f))) ?_ rfl
  rw [e2, hi, Res.bind_ok]
  have s0 : env.set i (match env[i]? with | some s => s | none => none) = env := set_self_eq env i _ fun y h => by rw [h]
  obtain ⟨o', e⟩ := lcGo_pure (env := env) (i := i) (ec := evIfs F cnd) (ee := fun en => evE F a en) (p := p) (f := f) items (match env[i]? with | some s => s | none => none) hc he
  rw [s0] at e
  rw [e, Res.bind_ok, back_one]
theorem ifs_none : evIfs F .none env = .ok true env := rfl
theorem ifs_some (h : Vx F a env (.bl k)) : evIfs F (.some a) env = .ok k env := vx_tru h
end
/-! ### statements -/
section
variable {F : FE} {env env1 : En} {a : IE} {x y : D} {ss : ISs} {k : Bool}
/-- the suite hands back the datum -/
def Rx (F : FE) (ss : ISs) (env : En) (x : D) : Prop := ∃ r env', evSs F ss env = .ok (.ret r) env' ∧ r.frz = .d x ∧ outsOf env' = []
theorem rx_ret (h : Vx F a env x) (ho : outsOf env = []) : Rx F (.cons (.ret a) ss) env x := by
  obtain ⟨r, e, h⟩ := vx_raw h
  exact ⟨r, env, by simp only [evSs, evS, e, Res.bind_ok], h, ho⟩
theorem rx_then {s : IS} (h : evS F s env = .ok .nx env1) (h2 : Rx F ss env1 x) : Rx F (.cons s ss) env x := by
  obtain ⟨r, env', e, h3⟩ := h2
  exact ⟨r, env', by simp only [evSs, h, Res.bind_ok, e], h3⟩
theorem nx_asg {i : Nat} {o : Option S} (h : Vx F a env x) (hi : env[i]? = some o) (hn : ∀ c, o ≠ some (.io c)) : evS F (.asg (.name i) a) env = .ok .nx (env.set i (some (.d x))) := by
  have h : (evE F a env).frz = .ok (.d x) env := h
  have hb : bindS (.name i) x env = some (env.set i (some (.d x))) := by
    have : noIo env (IT.slots (.name i)) = true := by
      show ((match env[i]? with | some (some (.io _)) => false | some _ => true | none => false) && true) = true
      rw [hi]
      match o, hn with
      | none, _ => rfl
      | some (.d _), _ => rfl
      | some (.own _), _ => rfl
      | some (.io c), hn => exact absurd rfl (hn c)
    unfold bindS
    rw [if_pos this]
    rfl
  simp only [evS, h, Res.bind_ok, hb, lift]
theorem nx_app {i : Nat} {l : List D} (h : Vx F a env x) (hi : cellAt env i = some (.lst l)) (hz : l.length < sizeLine) : evS F (.app i a) env = .ok .nx (putCell env i (.lst (l ++ [x]))) := by
  have h : (evE F a env).frz = .ok (.d x) env := h
  simp only [evS, hi, h, Res.bind_ok, hz, if_true]
theorem nx_ext {i : Nat} {l m : List D} (h : Vx F a env (.lst m)) (hi : cellAt env i = some (.lst l)) (hz : l.length + m.length ≤ sizeLine) : evS F (.ext i a) env = .ok .nx (putCell env i (.lst (l ++ m))) := by
  have h : (evE F a env).frz = .ok (.d (.lst m)) env := h
  simp only [evS, hi, h, Res.bind_ok, hz, if_true]
theorem pf_of {f : Fn} {G : FE} {np ns : Nat} {body : ISs} {xs : List D} (hf : f = runF G np ns body) (hl : xs.length = np) (h : Rx G body ((xs.map S.d).map some ++ List.replicate (ns - np) none) x) : PF f xs x := by
  obtain ⟨r, env', e, h1, h2⟩ := h
  subst hf
  unfold PF runF
  rw [if_pos (by simpa using hl), e]
  cases r with
  | d y =>
    have : y = x := by injection h1
    exact ⟨.d y, by simp only [retS, h2], .inl ⟨y, rfl, this⟩⟩
  | own c =>
    have : c.toD = x := by injection h1
    exact ⟨.own c, by simp only [retS, h2], .inr ⟨c, rfl, this⟩⟩
  | bor i => cases h1
end
end Tk

set_option Elab.async false
set_option linter.all false
set_option autoImplicit false
set_option maxRecDepth 100000
set_option maxHeartbeats 4000000
/-! Ir27: plain evaluation: comprehensions over images, loops. -/
namespace Tk
open PySem
section
variable {F : FE} {env : En} {a : IE} {α : Type}
theorem lcGo_map {i : Nat} {ec : En → Res En Bool} {ee : En → Res En R} (g : α → D) {p : α → Bool} {f : α → D} : ∀ (items : List α) (o : Option S),
    (∀ x ∈ items, ec (env.set i (some (.d (g x)))) = .ok (p x) (env.set i (some (.d (g x))))) → (∀ x ∈ items, p x = true → (ee (env.set i (some (.d (g x))))).frz = .ok (.d (f x)) (env.set i (some (.d (g x))))) →
    ∃ o', lcGo (.name i) [i] ec ee (items.map g) (env.set i o) = .ok ((items.filter p).map f) (env.set i o')
  | [], o, _, _ => ⟨o, rfl⟩
  | x :: r, o, hc, he => by
    have e0 : bindT (.name i) (g x) (wipeE (env.set i o) [i]) = some (env.set i (some (.d (g x)))) := by
      show some ((((env.set i o)).set i none).set i (some (.d (g x)))) = _
      rw [List.set_set, List.set_set]
    obtain ⟨o', ih⟩ := lcGo_map (ec := ec) (ee := ee) g (p := p) (f := f) r (some (.d (g x))) (fun y hy => hc y (List.mem_cons_of_mem _ hy)) fun y hy => he y (List.mem_cons_of_mem _ hy)
    refine ⟨o', ?_⟩
    have h1 := hc x List.mem_cons_self
    simp only [List.map_cons, lcGo, e0, h1, Res.bind_ok]
    cases hp : p x with
    | true =>
      have h2 := he x List.mem_cons_self hp
      simp only [if_true, h2, Res.bind_ok, ih, List.filter_cons, hp, List.map_cons]
    | false => simp only [Bool.false_eq_true, if_false, ih, List.filter_cons, hp]
theorem lc_eq {it : II} {tg : IT} {vs : List Nat} {cnd : IO} : evE F (.lc it tg vs cnd a) env = (evI F it env).bind fun items env1 => (lcGo tg vs (evIfs F cnd) (fun en => evE F a en) items env1).bind fun ys env2 => .ok (.own (.lst ys)) (backE env1 env2 vs) := by
  simp only [evE]
  rfl
theorem vx_lcm {it : II} {i : Nat} {cnd : IO} {ys : List D} (g : α → D) (l : List α) (p : α → Bool) (f : α → D) (hi : Ix F it env (l.map g)) (hc : ∀ x ∈ l, evIfs F cnd (env.set i (some (.d (g x)))) = .ok (p x) (env.set i (some (.d (g x)))))
    (he : ∀ x ∈ l, p x = true → Vx F a (env.set i (some (.d (g x)))) (f x)) (hy : (l.filter p).map f = ys) : Vx F (.lc it (.name i) [i] cnd a) env (.lst ys) := by
  subst hy
  have hi : evI F it env = .ok (l.map g) env := hi
  refine vx_of (r := .own (.lst ((l.filter p).map f))) ?_ rfl
  rw [lc_eq, hi, Res.bind_ok]
  have s0 : env.set i (match env[i]? with | some s => s | none => none) = env := set_self_eq env i _ fun y h => by rw [h]
  obtain ⟨o', e⟩ := lcGo_map (env := env) (i := i) (ec := evIfs F cnd) (ee := fun en => evE F a en) g (p := p) (f := f) l (match env[i]? with | some s => s | none => none) hc he
  rw [s0] at e
  rw [e, Res.bind_ok, back_one]
/-- no test -/
theorem vx_lcn {it : II} {i : Nat} {ys : List D} (g : α → D) (l : List α) (f : α → D) (hi : Ix F it env (l.map g)) (he : ∀ x ∈ l, Vx F a (env.set i (some (.d (g x)))) (f x)) (hy : l.map f = ys) : Vx F (.lc it (.name i) [i] .none a) env (.lst ys) :=
  vx_lcm g l (fun _ => true) f hi (fun _ _ => ifs_none) (fun x hx _ => he x hx) (by rw [List.filter_eq_self.mpr fun _ _ => rfl]; exact hy)
/-- a test, the item itself -/
theorem vx_lcf {it : II} {i : Nat} {c : IE} {ys : List D} (g : α → D) (l : List α) (p : α → Bool) (hl : i < env.length) (hi : Ix F it env (l.map g)) (hc : ∀ x ∈ l, Vx F c (env.set i (some (.d (g x)))) (.bl (p x)))
    (hy : (l.filter p).map g = ys) : Vx F (.lc it (.name i) [i] (.some c) (.var i)) env (.lst ys) :=
  vx_lcm g l p g hi (fun x hx => ifs_some (hc x hx)) (fun x _ _ => vx_var (by rw [get_set, if_pos rfl, if_pos hl])) hy
/-- x for n, x in enumerate(l) if c -/
theorem lcGo_enum {i j : Nat} {c : IE} (g : α → D) (hij : i ≠ j) (hi : i < env.length) (hj : j < env.length) (p : Nat → α → Bool) : ∀ (l : List α) (n : Nat) (o o2 : Option S),
    (∀ (k : Nat) (x : α), l[k]? = some x → Vx F c ((env.set i (some (.d (.int (n + k : Nat))))).set j (some (.d (g x)))) (.bl (p (n + k) x))) →
    ∃ o' o2', lcGo (.tup [i, j]) [i, j] (evIfs F (.some c)) (fun en => evE F (.var j) en) (enumD n (l.map g)) ((env.set i o).set j o2) = .ok (((l.zipIdx n).filter fun q => p q.2 q.1).map fun q => g q.1) ((env.set i o').set j o2')
  | [], n, o, o2, _ => ⟨o, o2, rfl⟩
  | x :: r, n, o, o2, h => by
    have e0 : bindT (.tup [i, j]) (.tup [.int n, g x]) (wipeE ((env.set i o).set j o2) [i, j]) = some ((env.set i (some (.d (.int n)))).set j (some (.d (g x)))) := by
      show some ((((((env.set i o).set j o2).set j none).set i none).set i (some (.d (.int n)))).set j (some (.d (g x)))) = _
      congr 1
      apply List.ext_getElem?
      intro k
      simp only [get_set, List.length_set]
      by_cases h1 : j = k
      · simp [h1]
      · by_cases h2 : i = k
        · simp [h1, h2]
        · simp [h1, h2]
    obtain ⟨o', o2', ih⟩ := lcGo_enum (c := c) g hij hi hj p r (n + 1) (some (.d (.int n))) (some (.d (g x))) fun k y hk => by
      have := h (k + 1) y (by simpa using hk)
      rw [show n + 1 + k = n + (k + 1) by omega]
      exact this
    refine ⟨o', o2', ?_⟩
    have h1 : evIfs F (.some c) ((env.set i (some (.d (.int n)))).set j (some (.d (g x)))) = _ := ifs_some (h 0 x rfl)
    have h2 : Vx F (.var j) ((env.set i (some (.d (.int n)))).set j (some (.d (g x)))) (g x) := vx_var (by rw [get_set, if_pos rfl, List.length_set, if_pos hj])
    have h2 : (evE F (.var j) ((env.set i (some (.d (.int n)))).set j (some (.d (g x))))).frz = _ := h2
    simp only [List.map_cons, enumD, lcGo, e0, h1, Res.bind_ok, Nat.add_zero, List.zipIdx_cons]
    cases hp : p n x with
    | true => simp only [if_true, h2, Res.bind_ok, ih, List.filter_cons, hp, List.map_cons]
    | false => simp only [Bool.false_eq_true, if_false, ih, List.filter_cons, hp]
theorem back_two {i j : Nat} {o o2 : Option S} (hij : i ≠ j) : backE env ((env.set i o).set j o2) [i, j] = env := by
  apply List.ext_getElem?
  intro k
  rw [backE_get env _ (by simp)]
  by_cases hk : k ∈ [i, j]
  · rw [if_pos hk]
  · rw [if_neg hk]
    simp only [List.mem_cons, List.not_mem_nil, or_false, not_or] at hk
    rw [get_set, get_set, if_neg (Ne.symm hk.2), if_neg (Ne.symm hk.1)]
theorem vx_lce {i j : Nat} {c e : IE} {ys : List D} (g : α → D) (l : List α) (p : Nat → α → Bool) (hij : i ≠ j) (hi : i < env.length) (hj : j < env.length) (he : Vx F e env (.lst (l.map g)))
    (hc : ∀ (k : Nat) (x : α), l[k]? = some x → Vx F c ((env.set i (some (.d (.int (k : Nat))))).set j (some (.d (g x)))) (.bl (p k x)))
    (hy : ((l.zipIdx 0).filter fun q => p q.2 q.1).map (fun q => g q.1) = ys) : Vx F (.lc (.enum e) (.tup [i, j]) [i, j] (.some c) (.var j)) env (.lst ys) := by
  subst hy
  refine vx_of (r := .own (.lst _)) ?_ rfl
  have he : (evE F e env).frz = .ok (.d (.lst (l.map g))) env := he
  have hi0 : evI F (.enum e) env = .ok (enumD 0 (l.map g)) env := by simp only [evI, he, Res.bind_ok]
  have s0 : ∀ k : Nat, ∃ o, env.set k o = env := fun k => ⟨_, set_self_eq env k (match env[k]? with | some s => s | none => none) fun y h => by rw [h]⟩
  obtain ⟨o1, e1⟩ := s0 i
  obtain ⟨o2, e2⟩ := s0 j
  obtain ⟨o', o2', e⟩ := lcGo_enum (F := F) (env := env) (c := c) g hij hi hj p l 0 o1 o2 fun k x hk => by rw [Nat.zero_add]; exact hc k x hk
  rw [e1, e2] at e
  rw [lc_eq, hi0, Res.bind_ok, e, Res.bind_ok, back_two hij]
end
/-! loops -/
theorem forGo_inv {F : FE} {tg : IT} {b : ISs} (P : List D → En → Prop) (step : ∀ x r en, P (x :: r) en → ∃ en1 en2, bindS tg x en = some en1 ∧ evSs F b en1 = .ok .nx en2 ∧ P r en2) :
    ∀ (items : List D) (en : En), P items en → ∃ en', forGo tg (fun en => evSs F b en) items en = .ok .nx en' ∧ P [] en'
  | [], en, h => ⟨en, rfl, h⟩
  | x :: r, en, h => by
    obtain ⟨en1, en2, h1, h2, h3⟩ := step x r en h
    obtain ⟨en', h4, h5⟩ := forGo_inv P step r en2 h3
    exact ⟨en', by simp only [forGo, h1, h2, Res.bind_ok, h4], h5⟩
theorem nx_for {F : FE} {tg : IT} {b : ISs} {it : II} {env : En} {items : List D} (P : List D → En → Prop) (hi : Ix F it env items) (h0 : P items env)
    (step : ∀ x r en, P (x :: r) en → ∃ en1 en2, bindS tg x en = some en1 ∧ evSs F b en1 = .ok .nx en2 ∧ P r en2) : ∃ en', evS F (.for_ it tg b) env = .ok .nx en' ∧ P [] en' := by
  obtain ⟨en', h1, h2⟩ := forGo_inv (F := F) (tg := tg) (b := b) P step items env h0
  have hi : evI F it env = .ok items env := hi
  exact ⟨en', by simp only [evS, hi, Res.bind_ok, h1], h2⟩
theorem nx_then {F : FE} {s : IS} {ss : ISs} {env env1 env2 : En} (h : evS F s env = .ok .nx env1) (h2 : evSs F ss env1 = .ok .nx env2) : evSs F (.cons s ss) env = .ok .nx env2 := by
  simp only [evSs, h, Res.bind_ok, h2]
theorem nx_nil {F : FE} {env : En} : evSs F .nil env = .ok .nx env := by simp only [evSs]
theorem nx_if {F : FE} {c : IE} {x y : ISs} {env env1 : En} {k : Bool} (h : Vx F c env (.bl k)) (ht : k = true → evSs F x env = .ok .nx env1) (hf : k = false → evSs F y env = .ok .nx env1) : evS F (.ife c x y) env = .ok .nx env1 := by
  simp only [evS, vx_tru h, Res.bind_ok]
  cases k with
  | true => rw [if_pos rfl]; exact ht rfl
  | false => rw [if_neg Bool.false_ne_true]; exact hf rfl
/-- a test that is not met -/
theorem nx_no {F : FE} {c : IE} {x : ISs} {env : En} (h : Vx F c env (.bl false)) : evS F (.ife c x .nil) env = .ok .nx env := nx_if h (fun z => nomatch z) fun _ => nx_nil
end Tk

set_option Elab.async false
set_option linter.all false
set_option autoImplicit false
set_option maxRecDepth 100000
set_option maxHeartbeats 4000000
/-! Ir28: plain evaluation: what slots own. -/
namespace Tk
open PySem
section
variable {F : FE} {env env1 env2 : En} {a b : IE} {x y z : D} {k : Bool} {i j : Nat} {s : S} {c : C} {r : R}
theorem cell_at (h : env[i]? = some (some s)) (hc : s.cell = some c) : cellAt env i = some c := by unfold cellAt; rw [h]; exact hc
theorem bor_frz (h : cellAt env i = some c) : (evE F (.var i) env).frz = .ok (.bor i) env ∧ val env (.bor i) = some c.toD := by
  obtain ⟨s, h1, h2⟩ := cellAt_some h
  cases s with
  | d x => cases h2
  | own c' => cases h2; exact ⟨by simp only [evE, h1]; rfl, by simp only [val, h1]⟩
  | io c' => cases h2; exact ⟨by simp only [evE, h1]; rfl, by simp only [val, h1]⟩
theorem vx_idxB (h : cellAt env i = some c) (hb : Vx F b env y) (hz : idxD c.toD y = some z) : Vx F (.idx (.var i) b) env z := by
  obtain ⟨h1, h2⟩ := bor_frz (F := F) h
  have hb : (evE F b env).frz = .ok (.d y) env := hb
  have hy : val env (.d y) = some y := rfl
  exact vx_of (r := .d z) (by rw [evE, h1, Res.bind_ok, hb, Res.bind_ok, h2, hy]; simp only [Option.bind, hz, lift, Option.map]) rfl
theorem vx_biB {f : Bi} (h : cellAt env i = some c) (hz : biD f c.toD = some r) (hr : r.frz = .d z) : Vx F (.bi f (.var i)) env z := by
  obtain ⟨h1, h2⟩ := bor_frz (F := F) h
  exact vx_of (r := r) (by rw [evE, h1, Res.bind_ok, h2]; simp only [Option.bind, hz, lift]) hr
theorem vx_cmpB {o : COp} (h : cellAt env i = some c) (hb : Vx F b env y) (hz : cmpD o c.toD y = some k) : Vx F (.cmp o (.var i) b) env (.bl k) := by
  obtain ⟨h1, h2⟩ := bor_frz (F := F) h
  have hb : (evE F b env).frz = .ok (.d y) env := hb
  have hy : val env (.d y) = some y := rfl
  exact vx_of (r := .d (.bl k)) (by rw [evE, h1, Res.bind_ok, hb, Res.bind_ok, h2, hy]; simp only [Option.bind, hz, lift, Option.map]) rfl
theorem nx_seti {l : List D} {n : Int} {m : Nat} {e : IE} (hx : Vx F e env x) (hc : cellAt env i = some (.lst l)) (hk : Vx F b env (.int n)) (hm : L2.ixN l.length n = some m) : evS F (.seti i b e) env = .ok .nx (putCell env i (.lst (l.set m x))) := by
  have hx : (evE F e env).frz = .ok (.d x) env := hx
  simp only [evS, hx, Res.bind_ok, hc, vx_val hk, hm]
theorem es_if {c : IE} {u v : ISs} (h : Vx F c env (.bl k)) : evS F (.ife c u v) env = if k = true then evSs F u env else evSs F v env := by
  simp only [evS, vx_tru h, Res.bind_ok]
theorem bin_mod {i j : Int} (h : 0 < j) : binD .mod (.int i) (.int j) = some (.d (.int (i % j))) := if_pos h
theorem bin_fdiv {i j : Int} (h : 0 < j ∧ j < 1073741824) : binD .fdiv (.int i) (.int j) = some (.d (.int (i / j))) := if_pos h
theorem bin_mul {i j : Int} (h : -(2 ^ 64) < j ∧ j < 2 ^ 64) : binD .mul (.int i) (.int j) = some (.d (.int (i * j))) := if_pos (.inr h)
theorem bin_pow {i j : Int} (h : 0 ≤ j ∧ j ≤ 1000000 ∧ i.natAbs < 2 ^ 64) : binD .pow (.int i) (.int j) = some (.d (.int (i ^ j.toNat))) := if_pos h
theorem bin_add {i j : Int} : binD .add (.int i) (.int j) = some (.d (.int (i + j))) := rfl
theorem ev_popAt {l0 l : List D} {k : Int} {n : Nat} (h0 : cellAt env i = some (.lst l0)) (ha : (evE F a env).val = .ok (.int k) env1) (h1 : cellAt env1 i = some (.lst l)) (hb : -(2 ^ 63) ≤ k ∧ k < 2 ^ 63) (hs : seqIndex? k l.length = some n) (hx : l[n]? = some x) :
    evE F (.pop i (.some a)) env = .ok (.d x) (putCell env1 i (.lst (l.eraseIdx n))) := by
  simp only [evE, h0, ha, Res.bind_ok, h1]
  rw [if_pos hb]
  simp only [hs, hx]
theorem ev_slcW {n : Int} (ha : Vx F a env x) (hb : (evE F b env).val = .ok (.int n) env1) (h : slcD x none (some n) = some r) : evE F (.slc a .none (.some b)) env = .ok r env1 := by
  have ha : (evE F a env).frz = .ok (.d x) env := ha
  have h2 : evO F (.some b) env = .ok (some n) env1 := by simp only [evO, hb, Res.bind_ok]
  have h3 : evO F .none env = .ok none env := by simp only [evO]
  rw [evE, ha, Res.bind_ok, h3, Res.bind_ok, h2, Res.bind_ok]
  show lift ((some x).bind fun u => slcD u none (some n)) env1 = _
  simp only [Option.bind, h, lift]
theorem ev_biW {f : Bi} (ha : (evE F a env).frz = .ok (.d x) env1) (h : biD f x = some r) : evE F (.bi f a) env = .ok r env1 := by
  rw [evE, ha, Res.bind_ok]
  show lift ((some x).bind fun u => biD f u) env1 = _
  simp only [Option.bind, h, lift]
theorem nx_asgW {o : Option S} (h : (evE F a env).frz = .ok (.d x) env1) (hi : env1[i]? = some o) (hn : ∀ c, o ≠ some (.io c)) : evS F (.asg (.name i) a) env = .ok .nx (env1.set i (some (.d x))) := by
  have h0 := nx_asg (F := F) (a := .con x) (x := x) (i := i) (env := env1) (o := o) vx_con hi hn
  have hc : (evE F (.con x) env1).frz = .ok (.d x) env1 := vx_con
  simp only [evS, hc, Res.bind_ok] at h0
  simp only [evS, h, Res.bind_ok]
  exact h0
theorem evs_ret {ss : ISs} (h : evE F a env = .ok r env1) : evSs F (.cons (.ret a) ss) env = .ok (.ret r) env1 := by simp only [evSs, evS, h, Res.bind_ok]
theorem evs_then {st : IS} {ss : ISs} {fl : Fl} (h : evS F st env = .ok .nx env1) (h2 : evSs F ss env1 = .ok (.ret r) env2) : evSs F (.cons st ss) env = .ok (.ret r) env2 := by simp only [evSs, h, Res.bind_ok, h2]
theorem runF_ret {np ns : Nat} {body : ISs} {args : List S} {s : S} (hl : args.length = np) (h : evSs F body (args.map some ++ List.replicate (ns - np) none) = .ok (.ret r) env1) (hr : retS env1 r = some s) : runF F np ns body args = .ok s (outsOf env1) := by
  unfold runF
  rw [if_pos hl, h]
  simp only [hr]
theorem runF_d {np ns : Nat} {body : ISs} {args : List S} (hl : args.length = np) (h : evSs F body (args.map some ++ List.replicate (ns - np) none) = .ok (.ret (.d x)) env1) : runF F np ns body args = .ok (.d x) (outsOf env1) := runF_ret (s := .d x) hl h rfl
theorem runF_own {np ns : Nat} {body : ISs} {args : List S} (hl : args.length = np) (h : evSs F body (args.map some ++ List.replicate (ns - np) none) = .ok (.ret (.own c)) env1) : runF F np ns body args = .ok (.own c) (outsOf env1) := runF_ret (s := .own c) hl h rfl
theorem runF_bor {np ns : Nat} {body : ISs} {args : List S} (hl : args.length = np) (h : evSs F body (args.map some ++ List.replicate (ns - np) none) = .ok (.ret (.bor i)) env1) (hi : env1[i]? = some (some (.own c))) : runF F np ns body args = .ok (.own c) (outsOf env1) :=
  runF_ret (s := .own c) hl h (by simp only [retS, hi])
/-- a call with one thing by reference, then data -/
theorem call_io {n : Nat} {as : IAs} {xs : List D} {c c' : C} (hc : cellAt env i = some c) (ha : Ax F as env xs) (hf : F n (.io c :: xs.map .d) = .ok (.d x) [c']) : evE F (.call n (.io i as) .nil []) env = .ok (.d x) (putCell env i c') := by
  have ha : evAs F as env = .ok (xs.map Arg.d) env := ha
  have e1 : evAs F (.io i as) env = .ok (.io i :: xs.map Arg.d) env := by simp only [evAs, hc, Option.isSome, if_true, ha, Res.bind_ok]
  have e2 : evAs F .nil env = .ok [] env := by simp only [evAs]
  have e3 : argsS env (.io i :: xs.map Arg.d) = some (.io c :: xs.map .d) := by simp only [argsS, argS, hc, Option.map, argsS_map xs]
  have e4 : (refsOf (.io i :: xs.map Arg.d)).Nodup := by
    show (i :: refsOf (xs.map Arg.d)).Nodup
    rw [refs_map]
    simp
  have e5 : iosOf (.io i :: xs.map Arg.d) = [i] := by
    show i :: iosOf (xs.map Arg.d) = [i]
    rw [ios_map]
  have e6 : hasSn (.io i :: xs.map Arg.d) = false := sn_map xs
  have e7 : putBack env [i] [c'] = some (putCell env i c') := rfl
  simp only [evE, e1, e2, Res.bind_ok, List.append_nil, permA, List.isEmpty_nil, if_true]
  unfold callR
  rw [e3]
  simp only [e4, if_true, hf, callE, e5, e6, e7, Bool.false_eq_true, if_false]
/-- .. where the arguments change things themselves -/
theorem call_ioW {n : Nat} {as : IAs} {xs : List D} {c c' : C} {g : Res (List C) S} (h0 : (cellAt env i).isSome = true) (ha : evAs F as env = .ok (xs.map Arg.d) env1) (hc : cellAt env1 i = some c) (hf : F n (.io c :: xs.map .d) = g) (hg : (∃ x, g = .ok (.d x) [c']) ∨ ∃ c2, g = .ok (.own c2) [c']) :
    evE F (.call n (.io i as) .nil []) env = callE [.io i] env1 g := by
  have e1 : evAs F (.io i as) env = .ok (.io i :: xs.map Arg.d) env1 := by simp only [evAs, h0, if_true, ha, Res.bind_ok]
  have e2 : evAs F .nil env1 = .ok [] env1 := by simp only [evAs]
  have e3 : argsS env1 (.io i :: xs.map Arg.d) = some (.io c :: xs.map .d) := by simp only [argsS, argS, hc, Option.map, argsS_map xs]
  have e4 : (refsOf (.io i :: xs.map Arg.d)).Nodup := by
    show (i :: refsOf (xs.map Arg.d)).Nodup
    rw [refs_map]
    simp
  have e5 : iosOf (.io i :: xs.map Arg.d) = [i] := by
    show i :: iosOf (xs.map Arg.d) = [i]
    rw [ios_map]
  have e6 : hasSn (.io i :: xs.map Arg.d) = false := sn_map xs
  simp only [evE, e1, e2, Res.bind_ok, List.append_nil, permA, List.isEmpty_nil, if_true]
  unfold callR
  rw [e3]
  simp only [e4, if_true, hf]
  rcases hg with ⟨x, rfl⟩ | ⟨c2, rfl⟩
  · simp only [callE, e5, e6]
    rfl
  · simp only [callE, e5, e6]
    rfl
/-- .. it hands back a new thing -/
theorem call_ioO {n : Nat} {as : IAs} {xs : List D} {c c' c2 : C} (hc : cellAt env i = some c) (ha : Ax F as env xs) (hf : F n (.io c :: xs.map .d) = .ok (.own c2) [c']) : evE F (.call n (.io i as) .nil []) env = .ok (.own c2) (putCell env i c') := by
  have ha : evAs F as env = .ok (xs.map Arg.d) env := ha
  have e1 : evAs F (.io i as) env = .ok (.io i :: xs.map Arg.d) env := by simp only [evAs, hc, Option.isSome, if_true, ha, Res.bind_ok]
  have e2 : evAs F .nil env = .ok [] env := by simp only [evAs]
  have e3 : argsS env (.io i :: xs.map Arg.d) = some (.io c :: xs.map .d) := by simp only [argsS, argS, hc, Option.map, argsS_map xs]
  have e4 : (refsOf (.io i :: xs.map Arg.d)).Nodup := by
    show (i :: refsOf (xs.map Arg.d)).Nodup
    rw [refs_map]
    simp
  have e5 : iosOf (.io i :: xs.map Arg.d) = [i] := by
    show i :: iosOf (xs.map Arg.d) = [i]
    rw [ios_map]
  have e6 : hasSn (.io i :: xs.map Arg.d) = false := sn_map xs
  have e7 : putBack env [i] [c'] = some (putCell env i c') := rfl
  simp only [evE, e1, e2, Res.bind_ok, List.append_nil, permA, List.isEmpty_nil, if_true]
  unfold callR
  rw [e3]
  simp only [e4, if_true, hf, callE, e5, e6, e7, Bool.false_eq_true, if_false]
end
end Tk

set_option Elab.async false
set_option linter.all false
set_option autoImplicit false
set_option maxRecDepth 100000
set_option maxHeartbeats 1000000
/-! k52, plain: lots, the greatest that hold none of some. -/
namespace K52
open PySem
abbrev L := List Str
/-- lot holds all of other -/
def holds (lot other : L) : Bool := other.all fun s => decide (s ∈ lot)
theorem holds_iff {a b : L} : holds a b = true ↔ ∀ s ∈ b, s ∈ a := by simp [holds]
/-- what is unlike, in its order -/
def ddGo : List L → List L → List L
  | acc, [] => acc
  | acc, x :: r => ddGo (if x ∈ acc then acc else acc ++ [x]) r
def dd (ls : List L) : List L := ddGo [] ls
theorem ddGo_spec : ∀ (r acc : List L), acc.Nodup → (ddGo acc r).Nodup ∧ ∀ x, x ∈ ddGo acc r ↔ x ∈ acc ∨ x ∈ r
  | [], acc, h => ⟨h, by simp [ddGo]⟩
  | y :: r, acc, h => by
    unfold ddGo
    by_cases hy : y ∈ acc
    · rw [if_pos hy]
      obtain ⟨h1, h2⟩ := ddGo_spec r acc h
      refine ⟨h1, fun x => ?_⟩
      rw [h2, List.mem_cons]
      constructor
      · rintro (q | q)
        · exact .inl q
        · exact .inr (.inr q)
      · rintro (q | rfl | q)
        · exact .inl q
        · exact .inl hy
        · exact .inr q
    · rw [if_neg hy]
      obtain ⟨h1, h2⟩ := ddGo_spec r (acc ++ [y]) (List.nodup_append.mpr ⟨h, by simp, by
        intro a ha b hb q
        rw [List.mem_singleton] at hb
        subst hb; subst q
        exact hy ha⟩)
      refine ⟨h1, fun x => ?_⟩
      rw [h2, List.mem_append, List.mem_singleton, List.mem_cons]
      constructor
      · rintro ((q | q) | q)
        · exact .inl q
        · exact .inr (.inl q)
        · exact .inr (.inr q)
      · rintro (q | q | q)
        · exact .inl (.inl q)
        · exact .inl (.inr q)
        · exact .inr q
theorem dd_nodup (ls : List L) : (dd ls).Nodup := (ddGo_spec ls [] List.nodup_nil).1
theorem mem_dd {ls : List L} {x : L} : x ∈ dd ls ↔ x ∈ ls := by
  rw [dd, (ddGo_spec ls [] List.nodup_nil).2]
  simp
def greatest (ls : List L) : List L := (dd ls).filter fun lot => !((dd ls).any fun other => decide (other ≠ lot) && holds other lot)
def least (ls : List L) : List L := (dd ls).filter fun lot => !((dd ls).any fun other => decide (other ≠ lot) && holds lot other)
theorem mem_greatest {ls : List L} {x : L} : x ∈ greatest ls ↔ x ∈ ls ∧ ∀ y ∈ ls, holds y x = true → y = x := by
  unfold greatest
  rw [List.mem_filter, mem_dd]
  simp only [Bool.not_eq_true', List.any_eq_false, Bool.and_eq_true, decide_eq_true_eq, not_and, mem_dd, Bool.not_eq_true]
  constructor
  · rintro ⟨h1, h2⟩
    refine ⟨h1, fun y hy h => ?_⟩
    apply Decidable.byContradiction
    intro hn
    have := h2 y hy hn
    rw [h] at this
    cases this
  · rintro ⟨h1, h2⟩
    refine ⟨h1, fun y hy hn => ?_⟩
    cases h : holds y x with
    | false => rfl
    | true => exact absurd (h2 y hy h) hn
theorem mem_least {ls : List L} {x : L} : x ∈ least ls ↔ x ∈ ls ∧ ∀ y ∈ ls, holds x y = true → y = x := by
  unfold least
  rw [List.mem_filter, mem_dd]
  simp only [Bool.not_eq_true', List.any_eq_false, Bool.and_eq_true, decide_eq_true_eq, not_and, mem_dd, Bool.not_eq_true]
  constructor
  · rintro ⟨h1, h2⟩
    refine ⟨h1, fun y hy h => ?_⟩
    apply Decidable.byContradiction
    intro hn
    have := h2 y hy hn
    rw [h] at this
    cases this
  · rintro ⟨h1, h2⟩
    refine ⟨h1, fun y hy hn => ?_⟩
    cases h : holds x y with
    | false => rfl
    | true => exact absurd (h2 y hy h) hn
theorem greatest_nodup (ls : List L) : (greatest ls).Nodup := (dd_nodup ls).filter _
theorem least_nodup (ls : List L) : (least ls).Nodup := (dd_nodup ls).filter _
/-! lots of a list without repeats -/
section
variable {full : L}
theorem holds_refl (a : L) : holds a a = true := holds_iff.mpr fun _ h => h
theorem holds_trans {a b c : L} (h : holds a b = true) (h' : holds b c = true) : holds a c = true := holds_iff.mpr fun s hs => holds_iff.mp h s (holds_iff.mp h' s hs)
/-- parts of full, in its order -/
def Sub (full a : L) : Prop := a.Sublist full
theorem sub_eq (nd : full.Nodup) : ∀ {a : L}, Sub full a → a = full.filter fun s => decide (s ∈ a) := by
  induction full with
  | nil => intro a h; cases h; rfl
  | cons x r ih =>
    intro a h
    obtain ⟨hx, ndr⟩ := List.nodup_cons.mp nd
    cases h with
    | cons _ h =>
      have hxa : x ∉ a := fun z => hx (h.subset z)
      rw [List.filter_cons_of_neg (by simpa using hxa)]
      exact ih ndr h
    | cons_cons _ h =>
      rename_i b
      rw [List.filter_cons_of_pos (by simp)]
      congr 1
      have e := ih ndr h
      refine e.trans (List.filter_congr fun s hs => ?_)
      have hsx : s ≠ x := fun z => hx (z ▸ hs)
      simp [hsx]
theorem holds_antisymm (nd : full.Nodup) {a b : L} (ha : Sub full a) (hb : Sub full b) (h1 : holds a b = true) (h2 : holds b a = true) : a = b := by
  rw [sub_eq nd ha, sub_eq nd hb]
  refine List.filter_congr fun s _ => ?_
  have : s ∈ a ↔ s ∈ b := ⟨holds_iff.mp h2 s, holds_iff.mp h1 s⟩
  simp [this]
theorem holds_sub (nd : full.Nodup) {a b : L} (ha : Sub full a) (hb : Sub full b) (h : holds a b = true) : b.Sublist a := by
  have e : b = a.filter fun s => decide (s ∈ b) := by
    have e1 := sub_eq nd ha
    have e2 := sub_eq nd hb
    have e3 : (full.filter fun s => decide (s ∈ b)) = (full.filter fun s => decide (s ∈ a)).filter fun s => decide (s ∈ b) := by
      rw [List.filter_filter]
      refine List.filter_congr fun s _ => ?_
      by_cases q : s ∈ b
      · have := holds_iff.mp h s q
        simp [q, this]
      · simp [q]
    rw [← e1, ← e2] at e3
    exact e3
  rw [e]
  exact List.filter_sublist
theorem holds_len (nd : full.Nodup) {a b : L} (ha : Sub full a) (hb : Sub full b) (h : holds a b = true) : b.length ≤ a.length := (holds_sub nd ha hb h).length_le
/-- one of the list's greatest is over it -/
theorem under_greatest (nd : full.Nodup) {ls : List L} (hs : ∀ x ∈ ls, Sub full x) : ∀ (n : Nat) (x : L), x ∈ ls → full.length - x.length ≤ n → ∃ m ∈ greatest ls, holds m x = true
  | n, x, hx, hn => by
    by_cases hm : x ∈ greatest ls
    · exact ⟨x, hm, holds_refl x⟩
    · have : ∃ y ∈ ls, holds y x = true ∧ y ≠ x := by
        apply Classical.byContradiction
        intro h
        refine hm (mem_greatest.mpr ⟨hx, fun y hy hyx => ?_⟩)
        apply Decidable.byContradiction
        intro hne
        exact h ⟨y, hy, hyx, hne⟩
      obtain ⟨y, hy, hyx, hne⟩ := this
      have l1 := holds_len nd (hs y hy) (hs x hx) hyx
      have l2 : y.length ≤ full.length := (hs y hy).length_le
      have l3 : x.length ≠ y.length := fun e => by
        exact hne ((holds_sub nd (hs y hy) (hs x hx) hyx).eq_of_length e).symm
      cases n with
      | zero => omega
      | succ n =>
        obtain ⟨m, hm1, hm2⟩ := under_greatest nd hs n y hy (by omega)
        exact ⟨m, hm1, holds_trans hm2 hyx⟩
/-- holds none of them -/
def Free (ls : List L) (a : L) : Prop := ∀ l ∈ ls, holds a l = false
theorem free_mono {ls : List L} {a b : L} (h : Free ls a) (hb : holds a b = true) : Free ls b := fun l hl => by
  cases q : holds b l with
  | false => rfl
  | true => rw [← h l hl]; exact (holds_trans hb q).symm
/-- the dual's found so far -/
structure Dual (full : L) (ls found : List L) : Prop where
  nd : found.Nodup
  sub : ∀ x ∈ found, Sub full x
  free : ∀ x ∈ found, Free ls x
  anti : ∀ x ∈ found, ∀ y ∈ found, holds y x = true → y = x
  over : ∀ a, Sub full a → Free ls a → ∃ x ∈ found, holds x a = true
theorem Dual.start : Dual full [] [full] where
  nd := by simp
  sub := fun x hx => by rw [List.mem_singleton] at hx; subst hx; exact List.Sublist.refl _
  free := fun x _ l hl => by simp at hl
  anti := fun x hx y hy _ => by rw [List.mem_singleton] at hx hy; rw [hx, hy]
  over := fun a ha _ => ⟨full, by simp, holds_iff.mpr fun s hs => ha.subset hs⟩
/-- what one of found gives -/
def cutBy (lot one : L) : List L := if holds one lot = true then lot.map fun gone => one.filter fun part => decide (part ≠ gone) else [one]
def laterOf (lot : L) (found : List L) : List L := (found.map (cutBy lot)).flatten
theorem mem_cut {lot one x : L} : x ∈ cutBy lot one ↔ (holds one lot = true ∧ ∃ g ∈ lot, x = one.filter fun part => decide (part ≠ g)) ∨ (holds one lot = false ∧ x = one) := by
  unfold cutBy
  cases h : holds one lot with
  | true =>
    rw [if_pos rfl, List.mem_map]
    constructor
    · rintro ⟨g, hg, rfl⟩; exact .inl ⟨rfl, g, hg, rfl⟩
    · rintro (⟨_, g, hg, rfl⟩ | ⟨z, _⟩)
      · exact ⟨g, hg, rfl⟩
      · cases z
  | false =>
    rw [if_neg Bool.false_ne_true, List.mem_singleton]
    constructor
    · intro e; exact .inr ⟨rfl, e⟩
    · rintro (⟨z, _⟩ | ⟨_, e⟩)
      · cases z
      · exact e
theorem mem_later {lot x : L} {found : List L} : x ∈ laterOf lot found ↔ ∃ one ∈ found, x ∈ cutBy lot one := by
  unfold laterOf
  rw [List.mem_flatten]
  constructor
  · rintro ⟨l, hl, hx⟩
    obtain ⟨o, ho, rfl⟩ := List.mem_map.mp hl
    exact ⟨o, ho, hx⟩
  · rintro ⟨o, ho, hx⟩
    exact ⟨_, List.mem_map.mpr ⟨o, ho, rfl⟩, hx⟩
theorem Dual.step (nd : full.Nodup) {ls found : List L} (D : Dual full ls found) (lot : L) : Dual full (ls ++ [lot]) (greatest (laterOf lot found)) := by
  have s1 : ∀ x ∈ laterOf lot found, Sub full x ∧ Free (ls ++ [lot]) x := fun x hx => by
    obtain ⟨one, ho, hc⟩ := mem_later.mp hx
    rcases mem_cut.mp hc with ⟨h1, g, hg, rfl⟩ | ⟨h1, rfl⟩
    · have hsub : holds one (one.filter fun part => decide (part ≠ g)) = true := holds_iff.mpr fun s hs => (List.mem_filter.mp hs).1
      refine ⟨List.filter_sublist.trans (D.sub one ho), fun l hl => ?_⟩
      rcases List.mem_append.mp hl with hl | hl
      · exact free_mono (D.free one ho) hsub l hl
      · rw [List.mem_singleton] at hl
        subst hl
        cases q : holds (one.filter fun part => decide (part ≠ g)) l with
        | false => rfl
        | true =>
          have := (List.mem_filter.mp (holds_iff.mp q g hg)).2
          simp at this
    · refine ⟨D.sub x ho, fun l hl => ?_⟩
      rcases List.mem_append.mp hl with hl | hl
      · exact D.free x ho l hl
      · rw [List.mem_singleton] at hl
        subst hl
        exact h1
  have s2 : ∀ a, Sub full a → Free (ls ++ [lot]) a → ∃ x ∈ laterOf lot found, holds x a = true := fun a ha hf => by
    obtain ⟨one, ho, hoa⟩ := D.over a ha fun l hl => hf l (List.mem_append_left _ hl)
    cases h : holds one lot with
    | false => exact ⟨one, mem_later.mpr ⟨one, ho, mem_cut.mpr (.inr ⟨h, rfl⟩)⟩, hoa⟩
    | true =>
      have : ∃ g ∈ lot, g ∉ a := by
        apply Classical.byContradiction
        intro hn
        have : holds a lot = true := holds_iff.mpr fun s hs => by
          apply Classical.byContradiction
          intro z
          exact hn ⟨s, hs, z⟩
        rw [hf lot (by simp)] at this
        cases this
      obtain ⟨g, hg, hga⟩ := this
      refine ⟨_, mem_later.mpr ⟨one, ho, mem_cut.mpr (.inl ⟨h, g, hg, rfl⟩)⟩, holds_iff.mpr fun s hs => List.mem_filter.mpr ⟨holds_iff.mp hoa s hs, ?_⟩⟩
      have : s ≠ g := fun z => hga (z ▸ hs)
      simp [this]
  have s3 : ∀ x ∈ laterOf lot found, Sub full x := fun x hx => (s1 x hx).1
  refine ⟨greatest_nodup _, fun x hx => s3 x (mem_greatest.mp hx).1, fun x hx => (s1 x (mem_greatest.mp hx).1).2, fun x hx y hy h => (mem_greatest.mp hx).2 y (mem_greatest.mp hy).1 h, fun a ha hf => ?_⟩
  obtain ⟨x, hx, hxa⟩ := s2 a ha hf
  obtain ⟨m, hm, hmx⟩ := under_greatest nd s3 _ x hx (Nat.le_refl _)
  exact ⟨m, hm, holds_trans hmx hxa⟩
def dualGo : List L → List L → List L
  | found, [] => found
  | found, lot :: r => dualGo (greatest (laterOf lot found)) r
def dual (full : L) (ls : List L) : List L := dualGo [full] ls
theorem dualGo_ok (nd : full.Nodup) : ∀ (r ls found : List L), Dual full ls found → Dual full (ls ++ r) (dualGo found r)
  | [], ls, found, D => by rw [List.append_nil]; exact D
  | lot :: r, ls, found, D => by
    have := dualGo_ok nd r (ls ++ [lot]) _ (D.step nd lot)
    rwa [List.append_assoc] at this
theorem dual_ok (nd : full.Nodup) (ls : List L) : Dual full ls (dual full ls) := by
  have := dualGo_ok nd ls [] [full] Dual.start
  rwa [List.nil_append] at this
/-- the greatest lots that are free -/
theorem Dual.mem (nd : full.Nodup) {ls found : List L} (D : Dual full ls found) {x : L} : x ∈ found ↔ Sub full x ∧ Free ls x ∧ ∀ y, Sub full y → Free ls y → holds y x = true → y = x := by
  constructor
  · intro hx
    refine ⟨D.sub x hx, D.free x hx, fun y hy hf h => ?_⟩
    obtain ⟨z, hz, hzy⟩ := D.over y hy hf
    have := D.anti x hx z hz (holds_trans hzy h)
    subst this
    exact holds_antisymm nd hy (D.sub z hz) h hzy
  · rintro ⟨h1, h2, h3⟩
    obtain ⟨z, hz, hzx⟩ := D.over x h1 h2
    have := h3 z (D.sub z hz) (D.free z hz) hzx
    rwa [← this]
theorem free_least (nd : full.Nodup) {ls : List L} (hs : ∀ x ∈ ls, Sub full x) {a : L} : Free (least ls) a ↔ Free ls a := by
  constructor
  · intro h l hl
    cases q : holds a l with
    | false => rfl
    | true =>
      -- one of the least is under l
      have : ∀ (n : Nat) (x : L), x ∈ ls → x.length ≤ n → ∃ m ∈ least ls, holds x m = true := by
        intro n
        induction n with
        | zero =>
          intro x hx hn
          refine ⟨x, mem_least.mpr ⟨hx, fun y hy h => ?_⟩, holds_refl x⟩
          have l1 := holds_len nd (hs x hx) (hs y hy) h
          rw [List.length_eq_zero_iff.mp (by omega : x.length = 0), List.length_eq_zero_iff.mp (by omega : y.length = 0)]
        | succ n ih =>
          intro x hx hn
          by_cases hm : x ∈ least ls
          · exact ⟨x, hm, holds_refl x⟩
          · have : ∃ y ∈ ls, holds x y = true ∧ y ≠ x := by
              apply Classical.byContradiction
              intro hh
              refine hm (mem_least.mpr ⟨hx, fun y hy hyx => ?_⟩)
              apply Decidable.byContradiction
              intro hne
              exact hh ⟨y, hy, hyx, hne⟩
            obtain ⟨y, hy, hyx, hne⟩ := this
            have l1 := holds_len nd (hs x hx) (hs y hy) hyx
            have l3 : y.length ≠ x.length := fun e => by
              exact hne ((holds_sub nd (hs x hx) (hs y hy) hyx).eq_of_length e)
            obtain ⟨m, hm1, hm2⟩ := ih y hy (by omega)
            exact ⟨m, hm1, holds_trans hyx hm2⟩
      obtain ⟨m, hm1, hm2⟩ := this l.length l hl (Nat.le_refl _)
      rw [← h m hm1]
      exact (holds_trans q hm2).symm
  · intro h l hl
    exact h l (mem_least.mp hl).1
end
end K52

set_option Elab.async false
set_option linter.all false
set_option autoImplicit false
set_option maxRecDepth 100000
set_option maxHeartbeats 1000000
/-! k52, plain: all lots, the due ones, the way back; what is sorted. -/
namespace K52
open PySem
/-! all lots -/
def lotsGo : List L → L → List L
  | found, [] => found
  | found, one :: r => lotsGo (found ++ found.map fun lot => lot ++ [one]) r
def lots (full : L) : List L := lotsGo [[]] full
theorem mem_lotsGo : ∀ (r : L) (found : List L) (a : L), a ∈ lotsGo found r ↔ ∃ b ∈ found, ∃ c : L, c.Sublist r ∧ a = b ++ c
  | [], found, a => by
    unfold lotsGo
    constructor
    · intro h; exact ⟨a, h, [], .slnil, by simp⟩
    · rintro ⟨b, hb, c, hc, rfl⟩
      rw [List.sublist_nil.mp hc, List.append_nil]
      exact hb
  | one :: r, found, a => by
    unfold lotsGo
    rw [mem_lotsGo r]
    constructor
    · rintro ⟨b, hb, c, hc, rfl⟩
      rcases List.mem_append.mp hb with hb | hb
      · exact ⟨b, hb, c, hc.cons _, rfl⟩
      · obtain ⟨d, hd, rfl⟩ := List.mem_map.mp hb
        exact ⟨d, hd, one :: c, hc.cons_cons _, by simp⟩
    · rintro ⟨b, hb, c, hc, rfl⟩
      cases hc with
      | cons _ hc => exact ⟨b, List.mem_append_left _ hb, c, hc, rfl⟩
      | cons_cons _ hc =>
        rename_i d
        exact ⟨b ++ [one], List.mem_append_right _ (List.mem_map.mpr ⟨b, hb, rfl⟩), d, hc, by simp⟩
theorem mem_lots {full a : L} : a ∈ lots full ↔ Sub full a := by
  unfold lots Sub
  rw [mem_lotsGo]
  constructor
  · rintro ⟨b, hb, c, hc, rfl⟩
    rw [List.mem_singleton] at hb
    subst hb
    exact hc
  · intro h
    exact ⟨[], by simp, a, h, rfl⟩
theorem lotsGo_nodup : ∀ (r : L) (found : List L), r.Nodup → found.Nodup → (∀ a ∈ found, ∀ s ∈ r, s ∉ a) → (lotsGo found r).Nodup
  | [], found, _, h, _ => h
  | one :: r, found, hr, h, hd => by
    obtain ⟨h1, h2⟩ := List.nodup_cons.mp hr
    unfold lotsGo
    refine lotsGo_nodup r _ h2 (List.nodup_append.mpr ⟨h, ?_, ?_⟩) ?_
    · refine List.Pairwise.map _ (fun a b hab => ?_) h
      intro z
      exact hab (List.append_cancel_right z)
    · intro a ha b hb z
      obtain ⟨c, hc, rfl⟩ := List.mem_map.mp hb
      refine hd a ha one List.mem_cons_self ?_
      rw [z]
      simp
    · intro a ha s hs
      rcases List.mem_append.mp ha with ha | ha
      · exact hd a ha s (List.mem_cons_of_mem _ hs)
      · obtain ⟨c, hc, rfl⟩ := List.mem_map.mp ha
        rw [List.mem_append, List.mem_singleton]
        rintro (z | z)
        · exact hd c hc s (List.mem_cons_of_mem _ hs) z
        · exact h1 (z ▸ hs)
theorem lots_nodup {full : L} (nd : full.Nodup) : (lots full).Nodup := lotsGo_nodup full [[]] nd (by simp) fun a ha s _ => by
  rw [List.mem_singleton] at ha
  subst ha
  simp
/-! what the law asks -/
def freeOf (every some : List L) : List L := every.filter fun lot => decide ((some.filter fun one => holds lot one) = [])
def topOf (free : List L) : List L := free.filter fun lot => decide ((free.filter fun one => decide (one ≠ lot) && holds one lot) = [])
def lowOf (free : List L) : List L := free.filter fun lot => decide ((free.filter fun one => decide (one ≠ lot) && holds lot one) = [])
def backOf (every due : List L) : List L := every.filter fun lot => decide ((due.filter fun one => holds one lot) = [])
theorem mem_topOf {ls : List L} {x : L} : x ∈ topOf ls ↔ x ∈ ls ∧ ∀ y ∈ ls, holds y x = true → y = x := by
  unfold topOf
  rw [List.mem_filter]
  simp only [decide_eq_true_eq, List.filter_eq_nil_iff, Bool.and_eq_true, not_and, ne_eq]
  constructor
  · rintro ⟨h1, h2⟩
    exact ⟨h1, fun y hy h => Decidable.byContradiction fun hn => h2 y hy hn h⟩
  · rintro ⟨h1, h2⟩
    exact ⟨h1, fun y hy hn h => hn (h2 y hy h)⟩
theorem mem_lowOf {ls : List L} {x : L} : x ∈ lowOf ls ↔ x ∈ ls ∧ ∀ y ∈ ls, holds x y = true → y = x := by
  unfold lowOf
  rw [List.mem_filter]
  simp only [decide_eq_true_eq, List.filter_eq_nil_iff, Bool.and_eq_true, not_and, ne_eq]
  constructor
  · rintro ⟨h1, h2⟩
    exact ⟨h1, fun y hy h => Decidable.byContradiction fun hn => h2 y hy hn h⟩
  · rintro ⟨h1, h2⟩
    exact ⟨h1, fun y hy hn h => hn (h2 y hy h)⟩
theorem least_eq (ls : List L) : least ls = lowOf (dd ls) := by
  unfold least lowOf
  refine List.filter_congr fun x _ => ?_
  rw [Bool.eq_iff_iff]
  simp only [Bool.not_eq_true', List.any_eq_false, decide_eq_true_eq, List.filter_eq_nil_iff]
theorem greatest_eq (ls : List L) : greatest ls = topOf (dd ls) := by
  unfold greatest topOf
  refine List.filter_congr fun x _ => ?_
  rw [Bool.eq_iff_iff]
  simp only [Bool.not_eq_true', List.any_eq_false, decide_eq_true_eq, List.filter_eq_nil_iff]
section
variable {full : L} {some : List L}
theorem mem_free {x : L} : x ∈ freeOf (lots full) some ↔ Sub full x ∧ Free some x := by
  unfold freeOf
  rw [List.mem_filter, mem_lots]
  simp only [decide_eq_true_eq, List.filter_eq_nil_iff]
  constructor
  · rintro ⟨h1, h2⟩
    exact ⟨h1, fun l hl => by simpa using h2 l hl⟩
  · rintro ⟨h1, h2⟩
    exact ⟨h1, fun l hl => by simpa using h2 l hl⟩
theorem due_perm (nd : full.Nodup) {found : List L} (D : Dual full some found) : found.Perm (topOf (freeOf (lots full) some)) := by
  refine (List.perm_ext_iff_of_nodup D.nd (show (topOf (freeOf (lots full) some)).Nodup from ((lots_nodup nd).filter _).filter _)).mpr fun x => ?_
  rw [D.mem nd, mem_topOf, mem_free]
  constructor
  · rintro ⟨h1, h2, h3⟩
    exact ⟨⟨h1, h2⟩, fun y hy h => h3 y (mem_free.mp hy).1 (mem_free.mp hy).2 h⟩
  · rintro ⟨⟨h1, h2⟩, h3⟩
    exact ⟨h1, h2, fun y hy hf h => h3 y (mem_free.mpr ⟨hy, hf⟩) h⟩
theorem dual_least (nd : full.Nodup) (hs : ∀ x ∈ some, Sub full x) : (dual full (least some)).Perm (topOf (freeOf (lots full) some)) := by
  have D := dual_ok nd (least some)
  refine due_perm nd ⟨D.nd, D.sub, fun x hx => (free_least nd hs).mp (D.free x hx), D.anti, fun a ha hf => D.over a ha ((free_least nd hs).mpr hf)⟩
theorem mem_back (nd : full.Nodup) (hs : ∀ x ∈ some, Sub full x) {due : List L} (hd : due.Perm (topOf (freeOf (lots full) some))) {x : L} : x ∈ backOf (lots full) due ↔ Sub full x ∧ ∃ l ∈ some, holds x l = true := by
  unfold backOf
  rw [List.mem_filter, mem_lots]
  simp only [decide_eq_true_eq, List.filter_eq_nil_iff]
  have D := dual_ok nd some
  have pm := (due_perm nd D).trans hd.symm
  constructor
  · rintro ⟨h1, h2⟩
    refine ⟨h1, Classical.byContradiction fun hn => ?_⟩
    have hf : Free some x := fun l hl => by
      cases q : holds x l with
      | false => rfl
      | true => exact absurd ⟨l, hl, q⟩ hn
    obtain ⟨d, hd1, hd2⟩ := D.over x h1 hf
    exact h2 d (pm.mem_iff.mp hd1) hd2
  · rintro ⟨h1, l, hl, h⟩
    refine ⟨h1, fun d hd1 hd2 => ?_⟩
    have := D.free d (pm.mem_iff.mpr hd1) l hl
    rw [holds_trans hd2 h] at this
    cases this
theorem back_perm (nd : full.Nodup) (hs : ∀ x ∈ some, Sub full x) {due : List L} (hd : due.Perm (topOf (freeOf (lots full) some))) : (lowOf (backOf (lots full) due)).Perm (least some) := by
  refine (List.perm_ext_iff_of_nodup (show (lowOf (backOf (lots full) due)).Nodup from ((lots_nodup nd).filter _).filter _) (least_nodup _)).mpr fun x => ?_
  rw [mem_lowOf, mem_least, mem_back nd hs hd]
  constructor
  · rintro ⟨⟨h1, l, hl, hx⟩, h2⟩
    have : l = x := h2 l ((mem_back nd hs hd).mpr ⟨hs l hl, l, hl, holds_refl l⟩) hx
    subst this
    exact ⟨hl, fun y hy h => h2 y ((mem_back nd hs hd).mpr ⟨hs y hy, y, hy, holds_refl y⟩) h⟩
  · rintro ⟨h1, h2⟩
    refine ⟨⟨hs x h1, x, h1, holds_refl x⟩, fun y hy h => ?_⟩
    obtain ⟨h3, l, hl, h4⟩ := (mem_back nd hs hd).mp hy
    have := h2 l hl (holds_trans h h4)
    subst this
    exact holds_antisymm nd h3 (hs l h1) h4 h
end
/-! ### as data -/
open Tk
def tl (a : L) : Tk.D := .tup (a.map .str)
theorem eqvs_str : ∀ (a b : L), Tk.D.eqvs (a.map .str) (b.map .str) = decide (a = b)
  | [], [] => rfl
  | [], _ :: _ => rfl
  | _ :: _, [] => rfl
  | x :: a, y :: b => by
    show (x == y && Tk.D.eqvs (a.map .str) (b.map .str)) = _
    rw [eqvs_str a b]
    by_cases h : x = y
    · subst h; simp
    · have : (x == y) = false := by rw [beq_eq_false_iff_ne]; exact h
      rw [this]
      simp [h]
theorem eqv_tl (a b : L) : Tk.D.eqv (tl a) (tl b) = decide (a = b) := eqvs_str a b
theorem eqvs_tl : ∀ (a b : List L), Tk.D.eqvs (a.map tl) (b.map tl) = decide (a = b)
  | [], [] => rfl
  | [], _ :: _ => rfl
  | _ :: _, [] => rfl
  | x :: a, y :: b => by
    show (Tk.D.eqv (tl x) (tl y) && Tk.D.eqvs (a.map tl) (b.map tl)) = _
    rw [eqvs_tl a b, eqv_tl]
    by_cases h : x = y
    · subst h; simp
    · simp [h]
theorem tl_inj {a b : L} (h : tl a = tl b) : a = b := by
  have := eqv_tl a b
  rw [h, eqv_tl b b] at this
  simpa using this.symm
theorem pys_strs : ∀ a : L, Tk.D.pys (a.map .str) = a.map PyData.str
  | [] => rfl
  | x :: a => by
    show Tk.D.py (.str x) :: Tk.D.pys (a.map .str) = _
    rw [pys_strs a]
    rfl
theorem py_tl (a : L) : (tl a).py = .tuple (a.map PyData.str) := by
  show PyData.tuple (Tk.D.pys (a.map .str)) = _
  rw [pys_strs]
theorem alikeAll_strs : ∀ a b : L, PySem.W.alikeAll (a.map PyData.str) (b.map PyData.str) = true
  | [], _ => by simp [PySem.W.alikeAll]
  | x :: a, [] => by simp [PySem.W.alikeAll]
  | x :: a, y :: b => by simp [PySem.W.alikeAll, PySem.W.alike, alikeAll_strs a b]
theorem alike_tl (a b : L) : PySem.W.alike (tl a).py (tl b).py = true := by
  rw [py_tl, py_tl]
  simp [PySem.W.alike, alikeAll_strs]
abbrev le (x y : Tk.D) : Bool := PySem.W.dataLe false Tk.D.py x y
theorem le_total : PySem.W.TotalLe le := PySem.W.sortLe_total _ _ _
theorem toks_inj : ∀ (a b : L), PySem.W.keyToksAll (a.map PyData.str) = PySem.W.keyToksAll (b.map PyData.str) → a = b
  | [], [], _ => rfl
  | [], y :: b, h => by simp [PySem.W.keyToksAll] at h
  | x :: a, [], h => by simp [PySem.W.keyToksAll] at h
  | x :: a, y :: b, h => by
    simp only [List.map_cons, PySem.W.keyToksAll, PySem.W.keyToks, List.cons_append, List.nil_append, List.cons.injEq, Sum.inr.injEq, true_and] at h
    rw [toks_inj a b h.2, PySem.W.str_of_cps h.1]
theorem le_antisymm {a b : L} (h1 : le (tl a) (tl b) = true) (h2 : le (tl b) (tl a) = true) : a = b := by
  have n1 : ∀ {k : Bool}, (!k) = true → k = false := fun {k} h => by cases k <;> first | rfl | cases h
  have et := (PyProof.Rows.listOrd PyProof.Rows.itemOrd).total (PySem.W.keyToks (tl a).py) (PySem.W.keyToks (tl b).py) (n1 h2) (n1 h1)
  have et : PySem.W.keyToks (tl a).py = PySem.W.keyToks (tl b).py := et
  rw [py_tl, py_tl] at et
  exact toks_inj a b et
def srt (ls : List L) : List Tk.D := (ls.map tl).mergeSort le
theorem srt_perm {a b : List L} (h : a.Perm b) : srt a = srt b := by
  have hp : ∀ l : List Tk.D, (l.mergeSort le).Pairwise (fun a b => le a b = true) := fun l => PySem.W.sort_pairwise le_total l
  refine List.Perm.eq_of_pairwise (le := fun a b => le a b = true) (fun x y hx hy h1 h2 => ?_) (hp _) (hp _) ((List.mergeSort_perm _ _).trans ((h.map tl).trans (List.mergeSort_perm _ _).symm))
  obtain ⟨u, _, rfl⟩ := List.mem_map.mp ((List.mergeSort_perm _ _).mem_iff.mp hx)
  obtain ⟨v, _, rfl⟩ := List.mem_map.mp ((List.mergeSort_perm _ _).mem_iff.mp hy)
  rw [le_antisymm h1 h2]
end K52

set_option Elab.async false
set_option linter.all false
set_option maxRecDepth 100000
set_option maxHeartbeats 4000000
/-! k52: the defs as texts of the small language. -/
namespace K52
open PySem Tk
/-- ordered -/
def b0 : ISs := .cons (.ret (.bi .tuple (.lc (.seq (.var 0)) (.name 2) [2] (.some (.cmp .inn (.var 2) (.var 1))) (.var 2)))) (.nil)
def d0 : Def := ⟨"ordered", ["full", "lot"], ["full", "lot", "one"], [(0, ["lot", "full"], [1, 0])], b0⟩
/-- has_all -/
def b1 : ISs := .cons (.ret (.bi .all (.lc (.seq (.var 1)) (.name 2) [2] .none (.cmp .inn (.var 2) (.var 0))))) (.nil)
def d1 : Def := ⟨"has_all", ["lot", "other"], ["lot", "other", "one"], [], b1⟩
/-- greatest_of -/
def b2 : ISs := .cons (.asg (.name 1) (.bi .list (.dc (.seq (.var 0)) (.name 2) [2] (.var 2) (.con (.bl true))))) (.cons (.ret (.lc (.seq (.var 1)) (.name 2) [2] (.some (.not1 (.bi .any (.lc (.seq (.var 1)) (.name 3) [3] .none (.and2 (.cmp .ne (.var 3) (.var 2)) (.call 1 (.v (.var 3) (.v (.var 2) (.nil))) (.nil) [])))))) (.var 2))) (.nil))
def d2 : Def := ⟨"greatest_of", ["lots"], ["lots", "unlike", "lot", "other"], [(0, ["lots"], [0])], b2⟩
/-- least_of -/
def b3 : ISs := .cons (.asg (.name 1) (.bi .list (.dc (.seq (.var 0)) (.name 2) [2] (.var 2) (.con (.bl true))))) (.cons (.ret (.lc (.seq (.var 1)) (.name 2) [2] (.some (.not1 (.bi .any (.lc (.seq (.var 1)) (.name 3) [3] .none (.and2 (.cmp .ne (.var 3) (.var 2)) (.call 1 (.v (.var 2) (.v (.var 3) (.nil))) (.nil) [])))))) (.var 2))) (.nil))
def d3 : Def := ⟨"least_of", ["lots"], ["lots", "unlike", "lot", "other"], [(0, ["lots"], [0])], b3⟩
/-- dual_of -/
def b4 : ISs := .cons (.asg (.name 2) (.lst (.cons (.bi .tuple (.var 0)) (.nil)))) (.cons (.for_ (.seq (.var 1)) (.name 3) (.cons (.own 4 (.lst (.nil))) (.cons (.for_ (.seq (.var 2)) (.name 5) (.cons (.ife (.call 1 (.v (.var 5) (.v (.var 3) (.nil))) (.nil) []) (.cons (.ext 4 (.lc (.seq (.var 3)) (.name 7) [7] .none (.bi .tuple (.lc (.seq (.var 5)) (.name 6) [6] (.some (.cmp .ne (.var 6) (.var 7))) (.var 6))))) (.nil)) (.cons (.app 4 (.var 5)) (.nil))) (.nil))) (.cons (.asg (.name 2) (.call 2 (.v (.frz 4) (.nil)) (.nil) [])) (.nil))))) (.cons (.ret (.var 2)) (.nil)))
def d4 : Def := ⟨"dual_of", ["full", "least"], ["full", "least", "found", "lot", "later", "one", "part", "gone"], [(0, ["least", "full"], [1, 0])], b4⟩
/-- _law_pen -/
def b5 : ISs := .cons (.asg (.name 1) (.con (.int 82205))) (.cons (.for_ (.seq (.var 0)) (.name 2) (.cons (.asg (.name 1) (.bin .mod (.bi .int (.bin .add (.bin .add (.bin .mul (.var 1) (.con (.int 1000003))) (.bin .mod (.bi .int (.var 2)) (.bin .pow (.con (.int 10)) (.con (.int 18))))) (.con (.int 11097)))) (.bin .sub (.bin .pow (.con (.int 2)) (.con (.int 61))) (.con (.int 1))))) (.nil))) (.cons (.ret (.lst (.cons (.var 1) (.nil)))) (.nil)))
def d5 : Def := ⟨"_law_pen", ["script"], ["script", "seed", "cell"], [], b5⟩
/-- _law_draw -/
def b6 : ISs := .cons (.ife (.cmp .lt (.var 1) (.con (.int 1))) (.cons (.ret (.con (.int 0))) (.nil)) (.nil)) (.cons (.seti 0 (.con (.int 0)) (.bin .mod (.bi .int (.bin .add (.bin .mul (.idx (.var 0) (.con (.int 0))) (.con (.int 6364136223846793005))) (.con (.int 1442695040888963407)))) (.bin .pow (.con (.int 2)) (.con (.int 64))))) (.cons (.ret (.bin .mod (.bi .int (.bin .fdiv (.idx (.var 0) (.con (.int 0))) (.con (.int 65537)))) (.var 1))) (.nil)))
def d6 : Def := ⟨"_law_draw", ["pen", "many"], ["pen", "many"], [], b6⟩
/-- _law_pick -/
def b7 : ISs := .cons (.ret (.idx (.var 1) (.call 6 (.io 0 (.v (.bi .len (.var 1)) (.nil))) (.nil) []))) (.nil)
def d7 : Def := ⟨"_law_pick", ["pen", "some"], ["pen", "some"], [], b7⟩
/-- _law_mixed -/
def b8 : ISs := .cons (.pair 2 3 (.bi .list (.var 1)) (.lst (.nil))) (.cons (.while_ 100 (.cmp .ne (.var 2) (.lst (.nil))) (.cons (.app 3 (.pop 2 (.some (.call 6 (.io 0 (.v (.bi .len (.var 2)) (.nil))) (.nil) [])))) (.nil))) (.cons (.ret (.var 3)) (.nil)))
def d8 : Def := ⟨"_law_mixed", ["pen", "some"], ["pen", "some", "left", "found"], [], b8⟩
/-- _law_lots -/
def b9 : ISs := .cons (.asg (.name 1) (.lst (.cons (.tup (.nil)) (.nil)))) (.cons (.for_ (.seq (.var 0)) (.name 2) (.cons (.asg (.name 1) (.bin .add (.var 1) (.lc (.seq (.var 1)) (.name 3) [3] .none (.bin .add (.var 3) (.tup (.cons (.var 2) (.nil))))))) (.nil))) (.cons (.ret (.var 1)) (.nil)))
def d9 : Def := ⟨"_law_lots", ["some"], ["some", "found", "one", "lot"], [], b9⟩
/-- _law_within -/
def b10 : ISs := .cons (.ret (.cmp .eq (.lc (.seq (.var 0)) (.name 2) [2] (.some (.cmp .nin (.var 2) (.var 1))) (.var 2)) (.lst (.nil)))) (.nil)
def d10 : Def := ⟨"_law_within", ["some", "others"], ["some", "others", "one"], [], b10⟩
/-- law -/
def b11 : ISs := .cons (.own 1 (.call 5 (.v (.var 0) (.nil)) (.nil) [])) (.cons (.for_ (.rng1 (.con (.int 8))) (.name 2) (.cons (.asg (.name 3) (.bi .tuple (.slc (.con (.str "abcdef")) .none (.some (.call 6 (.io 1 (.v (.con (.int 7)) (.nil))) (.nil) []))))) (.cons (.asg (.name 4) (.call 9 (.v (.var 3) (.nil)) (.nil) [])) (.cons (.asg (.name 5) (.lc (.rng1 (.call 6 (.io 1 (.v (.con (.int 6)) (.nil))) (.nil) [])) (.name 6) [6] .none (.call 7 (.io 1 (.v (.var 4) (.nil))) (.nil) []))) (.cons (.asg (.name 7) (.lc (.enum (.var 5)) (.tup [8, 9]) [8, 9] (.some (.cmp .nin (.var 9) (.slc (.var 5) .none (.some (.var 8))))) (.var 9))) (.cons (.asg (.name 10) (.lc (.seq (.var 7)) (.name 9) [9] (.some (.cmp .eq (.lc (.seq (.var 7)) (.name 11) [11] (.some (.and2 (.cmp .ne (.var 11) (.var 9)) (.call 10 (.v (.var 11) (.v (.var 9) (.nil))) (.nil) []))) (.var 11)) (.lst (.nil)))) (.var 9))) (.cons (.asg (.name 12) (.lc (.seq (.var 7)) (.name 9) [9] (.some (.cmp .eq (.lc (.seq (.var 7)) (.name 11) [11] (.some (.and2 (.cmp .ne (.var 11) (.var 9)) (.call 10 (.v (.var 9) (.v (.var 11) (.nil))) (.nil) []))) (.var 11)) (.lst (.nil)))) (.var 9))) (.cons (.ife (.or2 (.cmp .ne (.call 3 (.v (.var 5) (.nil)) (.nil) []) (.var 10)) (.or2 (.cmp .ne (.call 2 (.nil) (.v (.var 5) (.nil)) [0]) (.var 12)) (.or2 (.cmp .ne (.call 3 (.nil) (.v (.var 5) (.nil)) [0]) (.var 10)) (.cmp .ne (.call 2 (.v (.var 5) (.nil)) (.nil) []) (.var 12))))) (.cons (.ret (.con (.bl false))) (.nil)) (.nil)) (.cons (.asg (.name 13) (.lc (.seq (.var 4)) (.name 9) [9] (.some (.cmp .eq (.lc (.seq (.var 5)) (.name 11) [11] (.some (.call 10 (.v (.var 11) (.v (.var 9) (.nil))) (.nil) [])) (.var 11)) (.lst (.nil)))) (.var 9))) (.cons (.asg (.name 14) (.bi .sorted (.lc (.seq (.var 13)) (.name 9) [9] (.some (.cmp .eq (.lc (.seq (.var 13)) (.name 11) [11] (.some (.and2 (.cmp .ne (.var 11) (.var 9)) (.call 10 (.v (.var 9) (.v (.var 11) (.nil))) (.nil) []))) (.var 11)) (.lst (.nil)))) (.var 9)))) (.cons (.ife (.or2 (.cmp .ne (.bi .sorted (.call 4 (.v (.var 3) (.v (.var 5) (.nil))) (.nil) [])) (.var 14)) (.or2 (.cmp .ne (.bi .sorted (.call 4 (.nil) (.v (.var 10) (.v (.var 3) (.nil))) [1, 0])) (.var 14)) (.cmp .ne (.bi .len (.call 4 (.v (.var 3) (.v (.var 5) (.nil))) (.nil) [])) (.bi .len (.var 14))))) (.cons (.ret (.con (.bl false))) (.nil)) (.nil)) (.cons (.asg (.name 15) (.lc (.seq (.var 4)) (.name 9) [9] (.some (.cmp .eq (.lc (.seq (.var 14)) (.name 11) [11] (.some (.call 10 (.v (.var 9) (.v (.var 11) (.nil))) (.nil) [])) (.var 11)) (.lst (.nil)))) (.var 9))) (.cons (.ife (.cmp .ne (.bi .sorted (.lc (.seq (.var 15)) (.name 9) [9] (.some (.cmp .eq (.lc (.seq (.var 15)) (.name 11) [11] (.some (.and2 (.cmp .ne (.var 11) (.var 9)) (.call 10 (.v (.var 11) (.v (.var 9) (.nil))) (.nil) []))) (.var 11)) (.lst (.nil)))) (.var 9))) (.bi .sorted (.var 10))) (.cons (.ret (.con (.bl false))) (.nil)) (.nil)) (.cons (.asg (.name 9) (.bi .tuple (.call 8 (.io 1 (.v (.bi .list (.call 7 (.io 1 (.v (.var 4) (.nil))) (.nil) [])) (.nil))) (.nil) []))) (.cons (.ife (.or2 (.cmp .ne (.call 0 (.v (.var 3) (.v (.var 9) (.nil))) (.nil) []) (.bi .tuple (.lc (.seq (.var 3)) (.name 11) [11] (.some (.cmp .inn (.var 11) (.var 9))) (.var 11)))) (.cmp .ne (.call 0 (.nil) (.v (.bi .list (.var 9)) (.v (.bi .list (.var 3)) (.nil))) [1, 0]) (.call 0 (.v (.var 3) (.v (.var 9) (.nil))) (.nil) []))) (.cons (.ret (.con (.bl false))) (.nil)) (.nil)) (.nil)))))))))))))))) (.cons (.ret (.con (.bl true))) (.nil)))
def d11 : Def := ⟨"law", ["script"], ["script", "pen", "turn", "full", "every", "some", "lap", "unlike", "at", "lot", "least", "one", "most", "free", "due", "back"], [], b11⟩
def ds : List Def := [d0, d1, d2, d3, d4, d5, d6, d7, d8, d9, d10, d11]
/-! places: 0 at 1, 1 at 2, 2 at 3, 3 at 4, 4 at 5, 5 at 7, 6 at 8, 7 at 9, 8 at 10, 9 at 11, 10 at 12, 11 at 13 -/
def top (i : Nat) : Stmt := PySem.Challenge.pw_talkbook_k52_lots_beside_one_another.main.body.getD i (.Pass ⟨0, 0, 0, 0⟩)
theorem c0 : chkD ds d0 (top 1) = true := by decide +kernel
theorem c1 : chkD ds d1 (top 2) = true := by decide +kernel
theorem c2 : chkD ds d2 (top 3) = true := by decide +kernel
theorem c3 : chkD ds d3 (top 4) = true := by decide +kernel
theorem c4 : chkD ds d4 (top 5) = true := by decide +kernel
theorem c5 : chkD ds d5 (top 7) = true := by decide +kernel
theorem c6 : chkD ds d6 (top 8) = true := by decide +kernel
theorem c7 : chkD ds d7 (top 9) = true := by decide +kernel
theorem c8 : chkD ds d8 (top 10) = true := by decide +kernel
theorem c9 : chkD ds d9 (top 11) = true := by decide +kernel
theorem c10 : chkD ds d10 (top 12) = true := by decide +kernel
theorem c11 : chkD ds d11 (top 13) = true := by decide +kernel
end K52

set_option Elab.async false
set_option linter.all false
set_option autoImplicit false
set_option maxRecDepth 100000
set_option maxHeartbeats 4000000
/-! k52: what the package's defs give. -/
namespace K52
open PySem Tk

/-- signs that texts may hold -/
def Gd (a : L) : Prop := ∀ s ∈ a, s.cps.all (· < 0x110000) = true
theorem shps_strs {n : Nat} : ∀ {a : L}, Gd a → Tk.D.shps n (a.map .str) = true
  | [], _ => by simp [Tk.D.shps]
  | s :: a, h => by
    have h1 := h s List.mem_cons_self
    have h2 := shps_strs (n := n) (a := a) fun t ht => h t (List.mem_cons_of_mem _ ht)
    rw [List.map_cons]
    unfold Tk.D.shps
    rw [h2, Bool.and_true]
    cases n <;> exact h1
theorem shp_str {n : Nat} {s : Str} (h : s.cps.all (· < 0x110000) = true) : Tk.D.shp n (.str s) = true := by cases n <;> exact h
theorem shp_tl {n : Nat} {a : L} (h : Gd a) : Tk.D.shp (n + 1) (tl a) = true := shps_strs h
theorem shps_tls {n : Nat} : ∀ {ls : List L}, (∀ a ∈ ls, Gd a) → Tk.D.shps (n + 1) (ls.map tl) = true
  | [], _ => by simp [Tk.D.shps]
  | a :: ls, h => by
    rw [List.map_cons]
    unfold Tk.D.shps
    rw [shp_tl (h a List.mem_cons_self), shps_tls fun b hb => h b (List.mem_cons_of_mem _ hb), Bool.and_true]
theorem shp_lst {n : Nat} {ls : List L} (h : ∀ a ∈ ls, Gd a) : Tk.D.shp (n + 2) (.lst (ls.map tl)) = true := shps_tls (n := n) h
theorem eqD_tl {a b : L} (ha : Gd a) (hb : Gd b) : eqD (tl a) (tl b) = some (decide (a = b)) := by
  unfold eqD
  rw [shp_tl ha, shp_tl hb, if_pos (show (true && true) = true from rfl), eqv_tl]
theorem eqD_str {a b : Str} (ha : a.cps.all (· < 0x110000) = true) (hb : b.cps.all (· < 0x110000) = true) : eqD (.str a) (.str b) = some (decide (a = b)) := by
  unfold eqD
  rw [shp_str ha, shp_str hb, if_pos (show (true && true) = true from rfl)]
  rfl
theorem eqD_lst {a b : List L} (ha : ∀ x ∈ a, Gd x) (hb : ∀ x ∈ b, Gd x) : eqD (.lst (a.map tl)) (.lst (b.map tl)) = some (decide (a = b)) := by
  unfold eqD
  rw [shp_lst ha, shp_lst hb, if_pos (show (true && true) = true from rfl)]
  exact congrArg some (eqvs_tl a b)
theorem eqD_nil {a : List L} (ha : ∀ x ∈ a, Gd x) : eqD (.lst (a.map tl)) (.lst []) = some (decide (a = [])) := eqD_lst (b := []) ha (by simp)
theorem eqD_strs {a b : L} (ha : Gd a) (hb : Gd b) : eqD (.lst (a.map .str)) (.lst (b.map .str)) = some (decide (a = b)) := by
  unfold eqD
  have s : ∀ {c : L}, Gd c → Tk.D.shp 60 (.lst (c.map .str)) = true := fun h => shps_strs h
  rw [s ha, s hb, if_pos (show (true && true) = true from rfl)]
  exact congrArg some (eqvs_str a b)
theorem any_str {s : Str} : ∀ (a : L), ((a.map Tk.D.str).any fun y => Tk.D.eqv y (.str s)) = decide (s ∈ a)
  | [] => rfl
  | t :: a => by
    rw [List.map_cons, List.any_cons, any_str a]
    show (t == s || _) = _
    by_cases h : t = s
    · subst h; simp
    · have h2 : (t == s) = false := by rw [beq_eq_false_iff_ne]; exact h
      have h3 : ¬ s = t := fun z => h z.symm
      rw [h2]
      simp [h3]
theorem inD_str {s : Str} {a : L} (hs : s.cps.all (· < 0x110000) = true) (ha : Gd a) : inD (.str s) (a.map .str) = some (decide (s ∈ a)) := by
  unfold inD
  rw [shp_str hs, shps_strs ha, if_pos (show (true && true) = true from rfl), any_str]
theorem any_tl {x : L} : ∀ (ls : List L), ((ls.map tl).any fun y => Tk.D.eqv y (tl x)) = decide (x ∈ ls)
  | [] => rfl
  | t :: ls => by
    rw [List.map_cons, List.any_cons, any_tl ls, eqv_tl]
    by_cases h : t = x
    · subst h; simp
    · have h3 : ¬ x = t := fun z => h z.symm
      simp [h, h3]
theorem inD_tl {x : L} {ls : List L} (hx : Gd x) (hs : ∀ a ∈ ls, Gd a) : inD (tl x) (ls.map tl) = some (decide (x ∈ ls)) := by
  unfold inD
  rw [shp_tl hx, shps_tls hs, if_pos (show (true && true) = true from rfl), any_tl]
theorem bools_map {α : Type} (p : α → Bool) : ∀ l : List α, bools (l.map fun x => .bl (p x)) = some (l.map p)
  | [] => rfl
  | x :: l => by simp [bools, bools_map p l]
/-! ### has_all, greatest_of, least_of -/
variable {n : Nat}
theorem pf_has {a b : L} (ha : Gd a) (hb : Gd b) : PF (evN ds (n + 1) 1) [tl a, tl b] (.bl (holds a b)) := by
  refine pf_of (G := evN ds n) (np := 2) (ns := 3) (body := b1) rfl rfl ?_
  show Rx _ b1 [some (.d (tl a)), some (.d (tl b)), none] _
  refine rx_ret (vx_bi (r := .d (.bl (holds a b))) (x := .lst (b.map fun s => .bl (decide (s ∈ a)))) (vx_lcn (i := 2) Tk.D.str b (fun s => .bl (decide (s ∈ a))) (ix_seq (vx_var rfl) rfl) (fun s hs => ?_) rfl) ?_ rfl) rfl
  · exact vx_cmp (x := .str s) (y := tl a) (vx_var rfl) (vx_var rfl) (inD_str (hb s hs) ha)
  · show (bools (b.map fun s => .bl (decide (s ∈ a)))).map (fun bs => R.d (.bl (bs.all id))) = some (.d (.bl (holds a b)))
    rw [bools_map]
    simp [holds, List.all_map]
/-- the key that a lot is -/
def kl (a : L) : NestedKey := .tup (a.map .text)
theorem keys_strs : ∀ a : L, keyD.keysD (a.map Tk.D.str) = some (a.map NestedKey.text)
  | [] => rfl
  | s :: a => by simp [keyD.keysD, keys_strs a, keyD]
theorem keyD_tl (a : L) : keyD (tl a) = some (kl a) := by
  show (keyD.keysD (a.map Tk.D.str)).map NestedKey.tup = _
  rw [keys_strs]
  rfl
theorem texts_inj : ∀ {a b : L}, a.map NestedKey.text = b.map NestedKey.text → a = b
  | [], [], _ => rfl
  | [], _ :: _, h => by simp at h
  | _ :: _, [], h => by simp at h
  | x :: a, y :: b, h => by
    simp only [List.map_cons, List.cons.injEq, NestedKey.text.injEq] at h
    rw [h.1, texts_inj h.2]
theorem kl_inj {a b : L} (h : kl a = kl b) : a = b := texts_inj (NestedKey.tup.inj h)
theorem kl_depth (a : L) : (kl a).depth ≤ 8 := by
  have : ∀ a : L, NestedKey.depthAll (a.map .text) = 0 := fun a => by
    induction a with
    | nil => rfl
    | cons x a ih => simp [NestedKey.depthAll, NestedKey.depth, ih]
  show NestedKey.depthAll (a.map .text) + 1 ≤ 8
  rw [this]
  omega
abbrev kvs (acc : List L) : List (Tk.D × Tk.D) := acc.map fun a => (tl a, .bl true)
theorem put_tl (x : L) (acc : List L) : putD (kl x) (tl x) (.bl true) (kvs acc) = kvs (if x ∈ acc then acc else acc ++ [x]) := by
  have ha : ((kvs acc).any fun p => decide (keyD p.1 = some (kl x))) = decide (x ∈ acc) := by
    induction acc with
    | nil => rfl
    | cons t acc ih =>
      have e : ((kvs (t :: acc)).any fun p => decide (keyD p.1 = some (kl x))) = (decide (keyD (tl t) = some (kl x)) || ((kvs acc).any fun p => decide (keyD p.1 = some (kl x)))) := rfl
      rw [e, ih, keyD_tl]
      by_cases h : t = x
      · subst h; simp
      · have h2 : ¬ (some (kl t) = some (kl x)) := fun z => h (kl_inj (Option.some.inj z))
        have h3 : ¬ x = t := fun z => h z.symm
        simp [h2, h3]
  unfold putD
  rw [ha]
  by_cases h : x ∈ acc
  · rw [if_pos (by simpa using h), if_pos h]
    have : ∀ p ∈ kvs acc, (if keyD p.1 = some (kl x) then (p.1, Tk.D.bl true) else p) = p := fun p hp => by
      obtain ⟨a, _, rfl⟩ := List.mem_map.mp hp
      split <;> rfl
    rw [List.map_congr_left this, List.map_id']
  · rw [if_neg (by simpa using h), if_neg h]
    simp [kvs]
theorem dcGo_dd {F : FE} {env : En} {i : Nat} (hl : i < env.length) : ∀ (ls acc : List L) (o : Option S), acc.length + ls.length < sizeLine → ∃ o', dcGo (.name i) [i] (fun en => evE F (.var i) en) (fun en => evE F (.con (.bl true)) en) (ls.map tl) (kvs acc) (env.set i o) = .ok (kvs (ddGo acc ls)) (env.set i o')
  | [], acc, o, _ => ⟨o, rfl⟩
  | x :: r, acc, o, hz => by
    have e0 : bindT (.name i) (tl x) (wipeE (env.set i o) [i]) = some (env.set i (some (.d (tl x)))) := by
      show some (((env.set i o).set i none).set i (some (.d (tl x)))) = _
      rw [List.set_set, List.set_set]
    have h1 : (evE F (.var i) (env.set i (some (.d (tl x))))).frz = .ok (.d (tl x)) (env.set i (some (.d (tl x)))) := vx_var (by rw [get_set, if_pos rfl, if_pos hl])
    have h2 : (evE F (.con (.bl true)) (env.set i (some (.d (tl x))))).frz = .ok (.d (.bl true)) (env.set i (some (.d (tl x)))) := vx_con
    have hc : ((tl x).isTup && decide ((kl x).depth ≤ 8) && decide ((kvs acc).length < sizeLine)) = true := by
      have hz2 : (kvs acc).length < sizeLine := by
        rw [List.length_map]
        rw [List.length_cons] at hz
        omega
      rw [decide_eq_true (kl_depth x), decide_eq_true hz2]
      rfl
    have hz3 : (if x ∈ acc then acc else acc ++ [x]).length + r.length < sizeLine := by
      rw [List.length_cons] at hz
      split
      · omega
      · rw [List.length_append, List.length_singleton]; omega
    obtain ⟨o', ih⟩ := dcGo_dd (F := F) (env := env) hl r (if x ∈ acc then acc else acc ++ [x]) (some (.d (tl x))) hz3
    refine ⟨o', ?_⟩
    simp only [List.map_cons, dcGo, e0, h1, h2, Res.bind_ok, keyD_tl, hc, if_true, put_tl]
    rw [ih]
    rfl
theorem vx_dd {F : FE} {env : En} {i : Nat} {it : II} {ls : List L} (hl : i < env.length) (hi : Ix F it env (ls.map tl)) (hz : ls.length < sizeLine) : Vx F (.bi .list (.dc it (.name i) [i] (.var i) (.con (.bl true)))) env (.lst ((dd ls).map tl)) := by
  have hi : evI F it env = .ok (ls.map tl) env := hi
  have hd : Vx F (.dc it (.name i) [i] (.var i) (.con (.bl true))) env (.dct (kvs (dd ls))) := by
    refine vx_of (r := .own (.dct (kvs (dd ls)))) ?_ rfl
    have e2 : evE F (.dc it (.name i) [i] (.var i) (.con (.bl true))) env = (evI F it env).bind fun items env1 => (dcGo (.name i) [i] (fun en => evE F (.var i) en) (fun en => evE F (.con (.bl true)) en) items [] env1).bind fun kvs env2 => .ok (.own (.dct kvs)) (backE env1 env2 [i]) := by
      simp only [evE]
    rw [e2, hi, Res.bind_ok]
    have s0 : env.set i (match env[i]? with | some s => s | none => none) = env := set_self_eq env i _ fun y h => by rw [h]
    obtain ⟨o', e⟩ := dcGo_dd (F := F) (env := env) hl ls [] (match env[i]? with | some s => s | none => none) (by simpa using hz)
    rw [s0] at e
    have e : dcGo (.name i) [i] (fun en => evE F (.var i) en) (fun en => evE F (.con (.bl true)) en) (ls.map tl) [] env = .ok (kvs (dd ls)) (env.set i o') := e
    rw [e, Res.bind_ok, back_one]
  refine vx_bi hd (r := .own (.lst ((dd ls).map tl))) ?_ rfl
  show some (R.own (C.lst ((kvs (dd ls)).map (·.1)))) = _
  rw [List.map_map]
  rfl
theorem gd_dd {ls : List L} (h : ∀ a ∈ ls, Gd a) : ∀ a ∈ dd ls, Gd a := fun a ha => h a (mem_dd.mp ha)
theorem ne_tl {a b : L} (ha : Gd a) (hb : Gd b) : cmpD .ne (tl a) (tl b) = some (decide (a ≠ b)) := by
  show (eqD (tl a) (tl b)).map (!·) = _
  rw [eqD_tl ha hb]
  simp
theorem any_map {α : Type} (p : α → Bool) (l : List α) : biD .any (.lst (l.map fun x => .bl (p x))) = some (.d (.bl (l.any p))) := by
  show (bools (l.map fun x => .bl (p x))).map (fun bs => R.d (.bl (bs.any id))) = _
  rw [bools_map]
  simp [List.any_map]
theorem pf_greatest {ls : List L} (hg : ∀ a ∈ ls, Gd a) (hz : ls.length < sizeLine) : PF (evN ds (n + 2) 2) [.lst (ls.map tl)] (.lst ((greatest ls).map tl)) := by
  refine pf_of (G := evN ds (n + 1)) (np := 1) (ns := 4) (body := b2) rfl rfl ?_
  show Rx _ b2 [some (.d (.lst (ls.map tl))), none, none, none] _
  refine rx_then (env1 := [some (.d (.lst (ls.map tl))), some (.d (.lst ((dd ls).map tl))), none, none]) (nx_asg (i := 1) (o := none) (vx_dd (by show 2 < 4; decide) (ix_seq (vx_var rfl) rfl) hz) rfl (fun c z => nomatch z)) ?_
  have gd := gd_dd hg
  refine rx_ret (vx_lcf tl (dd ls) (fun lot => !((dd ls).any fun other => decide (other ≠ lot) && holds other lot)) (by show 2 < 4; decide) (ix_seq (vx_var rfl) rfl) (fun a ha => vx_not (vx_bi (vx_lcn tl (dd ls) (fun other => .bl (decide (other ≠ a) && holds other a)) (ix_seq (vx_var rfl) rfl) (fun o ho => ?_) rfl) (any_map _ _) rfl)) rfl) rfl
  exact vx_and (vx_cmp (vx_var rfl) (vx_var rfl) (ne_tl (gd o ho) (gd a ha))) fun _ => vx_call (zs := [tl o, tl a]) (ax_cons (vx_var rfl) (ax_cons (vx_var rfl) ax_nil)) ax_nil rfl (pf_has (gd o ho) (gd a ha))
theorem pf_least {ls : List L} (hg : ∀ a ∈ ls, Gd a) (hz : ls.length < sizeLine) : PF (evN ds (n + 2) 3) [.lst (ls.map tl)] (.lst ((least ls).map tl)) := by
  refine pf_of (G := evN ds (n + 1)) (np := 1) (ns := 4) (body := b3) rfl rfl ?_
  show Rx _ b3 [some (.d (.lst (ls.map tl))), none, none, none] _
  refine rx_then (env1 := [some (.d (.lst (ls.map tl))), some (.d (.lst ((dd ls).map tl))), none, none]) (nx_asg (i := 1) (o := none) (vx_dd (by show 2 < 4; decide) (ix_seq (vx_var rfl) rfl) hz) rfl (fun c z => nomatch z)) ?_
  have gd := gd_dd hg
  refine rx_ret (vx_lcf tl (dd ls) (fun lot => !((dd ls).any fun other => decide (other ≠ lot) && holds lot other)) (by show 2 < 4; decide) (ix_seq (vx_var rfl) rfl) (fun a ha => vx_not (vx_bi (vx_lcn tl (dd ls) (fun other => .bl (decide (other ≠ a) && holds a other)) (ix_seq (vx_var rfl) rfl) (fun o ho => ?_) rfl) (any_map _ _) rfl)) rfl) rfl
  exact vx_and (vx_cmp (vx_var rfl) (vx_var rfl) (ne_tl (gd o ho) (gd a ha))) fun _ => vx_call (zs := [tl a, tl o]) (ax_cons (vx_var rfl) (ax_cons (vx_var rfl) ax_nil)) ax_nil rfl (pf_has (gd a ha) (gd o ho))
end K52

set_option Elab.async false
set_option linter.all false
set_option autoImplicit false
set_option maxRecDepth 100000
set_option maxHeartbeats 4000000
/-! k52: dual_of; the law's own defs. -/
namespace K52
open PySem Tk
variable {n : Nat}
/-! ### dual_of -/
theorem gd_sub {full a : L} (h : Gd full) (hs : Sub full a) : Gd a := fun s hm => h s (hs.subset hm)
theorem gd_later {full lot : L} {found : List L} (h : Gd full) (hs : ∀ x ∈ found, Sub full x) : ∀ x ∈ laterOf lot found, Gd x := fun x hx => by
  obtain ⟨one, ho, hc⟩ := mem_later.mp hx
  rcases mem_cut.mp hc with ⟨_, g, _, rfl⟩ | ⟨_, rfl⟩
  · exact fun s hm => gd_sub h (hs one ho) s (List.mem_filter.mp hm).1
  · exact gd_sub h (hs x ho)
theorem cut_len (lot one : L) : (cutBy lot one).length ≤ lot.length + 1 := by
  unfold cutBy
  split <;> simp
theorem later_len (lot : L) : ∀ found : List L, (laterOf lot found).length ≤ found.length * (lot.length + 1)
  | [] => by simp [laterOf]
  | one :: r => by
    have ih := later_len lot r
    have h := cut_len lot one
    have e : laterOf lot (one :: r) = cutBy lot one ++ laterOf lot r := rfl
    rw [e, List.length_append, List.length_cons, Nat.add_mul]
    omega
/-- the slots of dual_of -/
abbrev ED (full : L) (some_ : List L) (found : List L) (lot later one part gone : Option S) : En := [some (.d (tl full)), some (.d (.lst (some_.map tl))), some (.d (.lst (found.map tl))), lot, later, one, part, gone]
theorem cut_vx {F : FE} {full : L} {some_ found : List L} {lot one : L} {l p g : Option S} (go : Gd one) (gl : Gd lot) :
    Vx F (.lc (.seq (.var 3)) (.name 7) [7] .none (.bi .tuple (.lc (.seq (.var 5)) (.name 6) [6] (.some (.cmp .ne (.var 6) (.var 7))) (.var 6)))) (ED full some_ found (some (.d (tl lot))) l (some (.d (tl one))) p g) (.lst ((lot.map fun gone => one.filter fun part => decide (part ≠ gone)).map tl)) := by
  refine vx_lcn (i := 7) Tk.D.str lot (fun gone => tl (one.filter fun part => decide (part ≠ gone))) (ix_seq (vx_var rfl) rfl) (fun gs hg => ?_) (by rw [List.map_map]; rfl)
  refine vx_bi (x := .lst ((one.filter fun part => decide (part ≠ gs)).map .str)) (vx_lcf (i := 6) Tk.D.str one (fun part => decide (part ≠ gs)) (by show 6 < 8; decide) (ix_seq (vx_var rfl) rfl) (fun ps hp => ?_) rfl) rfl rfl
  refine vx_cmp (x := .str ps) (y := .str gs) (vx_var rfl) (vx_var rfl) ?_
  show (eqD (.str ps) (.str gs)).map (!·) = _
  rw [eqD_str (go ps hp) (gl gs hg)]
  simp
theorem dual_in {F : FE} {full : L} {some_ found : List L} {lot : L} {o p g : Option S} (hF : ∀ one ∈ found, PF (F 1) [tl one, tl lot] (.bl (holds one lot))) (gf : ∀ x ∈ found, Gd x) (gl : Gd lot) (hz : found.length * (lot.length + 1) ≤ sizeLine) (ho : ∀ c, o ≠ some (.io c)) :
    ∃ o', evS F (.for_ (.seq (.var 2)) (.name 5) (.cons (.ife (.call 1 (.v (.var 5) (.v (.var 3) (.nil))) (.nil) []) (.cons (.ext 4 (.lc (.seq (.var 3)) (.name 7) [7] .none (.bi .tuple (.lc (.seq (.var 5)) (.name 6) [6] (.some (.cmp .ne (.var 6) (.var 7))) (.var 6))))) (.nil)) (.cons (.app 4 (.var 5)) (.nil))) (.nil)))
      (ED full some_ found (some (.d (tl lot))) (some (.own (.lst []))) o p g) = .ok .nx (ED full some_ found (some (.d (tl lot))) (some (.own (.lst ((laterOf lot found).map tl)))) o' p g) ∧ ∀ c, o' ≠ some (.io c) := by
  obtain ⟨en', h1, o', h2, h3⟩ := nx_for (F := F) (tg := .name 5) (it := .seq (.var 2)) (env := ED full some_ found (some (.d (tl lot))) (some (.own (.lst []))) o p g) (items := found.map tl)
    (b := .cons (.ife (.call 1 (.v (.var 5) (.v (.var 3) (.nil))) (.nil) []) (.cons (.ext 4 (.lc (.seq (.var 3)) (.name 7) [7] .none (.bi .tuple (.lc (.seq (.var 5)) (.name 6) [6] (.some (.cmp .ne (.var 6) (.var 7))) (.var 6))))) (.nil)) (.cons (.app 4 (.var 5)) (.nil))) (.nil))
    (fun rest en => ∃ o', (∃ ahead behind : List L, found = ahead ++ behind ∧ rest = behind.map tl ∧ en = ED full some_ found (some (.d (tl lot))) (some (.own (.lst ((laterOf lot ahead).map tl)))) o' p g) ∧ ∀ c, o' ≠ some (.io c))
    (ix_seq (vx_var rfl) rfl) ⟨o, ⟨[], found, rfl, rfl, rfl⟩, ho⟩ (by
      rintro x r en ⟨o', ⟨ahead, behind, hf, hr, rfl⟩, ho'⟩
      cases behind with
      | nil => cases hr
      | cons one rest =>
        rw [List.map_cons] at hr
        injection hr with hx hr
        subst hx; subst hr
        have hone : one ∈ found := by rw [hf]; simp
        have e1 : laterOf lot (ahead ++ [one]) = laterOf lot ahead ++ cutBy lot one := by simp [laterOf]
        have hlen : (laterOf lot (ahead ++ [one])).length ≤ sizeLine := by
          refine Nat.le_trans (later_len lot _) (Nat.le_trans (Nat.mul_le_mul_right _ ?_) hz)
          rw [hf]
          simp
        rw [e1, List.length_append] at hlen
        refine ⟨ED full some_ found (some (.d (tl lot))) (some (.own (.lst ((laterOf lot ahead).map tl)))) (some (.d (tl one))) p g, ED full some_ found (some (.d (tl lot))) (some (.own (.lst ((laterOf lot (ahead ++ [one])).map tl)))) (some (.d (tl one))) p g, ?_, ?_, some (.d (tl one)), ⟨ahead ++ [one], rest, by rw [hf]; simp, rfl, rfl⟩, fun c z => nomatch z⟩
        · unfold bindS
          have : noIo (ED full some_ found (some (.d (tl lot))) (some (.own (.lst ((laterOf lot ahead).map tl)))) o' p g) (IT.slots (.name 5)) = true := by
            match o', ho' with
            | none, _ => rfl
            | some (.d _), _ => rfl
            | some (.own _), _ => rfl
            | some (.io c), h => exact absurd rfl (h c)
          rw [if_pos this]
          rfl
        · refine nx_then (nx_if (k := holds one lot) (vx_call (zs := [tl one, tl lot]) (ax_cons (vx_var rfl) (ax_cons (vx_var rfl) ax_nil)) ax_nil rfl (hF one hone)) (fun hk => ?_) fun hk => ?_) nx_nil
          · have hc : cutBy lot one = lot.map fun gone => one.filter fun part => decide (part ≠ gone) := by unfold cutBy; rw [if_pos hk]
            rw [hc, List.length_map] at hlen
            refine nx_then ((nx_ext (cut_vx (gf one hone) gl) rfl (by simpa using hlen)).trans ?_) nx_nil
            rw [e1, hc, List.map_append]
            rfl
          · have hc : cutBy lot one = [one] := by unfold cutBy; rw [if_neg (by rw [hk]; exact Bool.false_ne_true)]
            rw [hc, List.length_singleton] at hlen
            refine nx_then ((nx_app (x := tl one) (vx_var rfl) rfl (by rw [List.length_map]; omega)).trans ?_) nx_nil
            rw [e1, hc, List.map_append]
            rfl)
  obtain ⟨⟨ahead, behind, hf, hr, rfl⟩, h4⟩ := (show (∃ ahead behind : List L, found = ahead ++ behind ∧ [] = behind.map tl ∧ en' = _) ∧ _ from ⟨h2, h3⟩)
  have hb : behind = [] := by
    cases behind with
    | nil => rfl
    | cons _ _ => cases hr
  subst hb
  rw [List.append_nil] at hf
  subst hf
  exact ⟨o', h1, h4⟩
end K52

set_option Elab.async false
set_option linter.all false
set_option autoImplicit false
set_option maxRecDepth 100000
set_option maxHeartbeats 4000000
/-! k52: dual_of whole; lots, within, ordered. -/
namespace K52
open PySem Tk
variable {n : Nat}
theorem lotsGo_len : ∀ (r : L) (found : List L), (lotsGo found r).length = found.length * 2 ^ r.length
  | [], found => by simp [lotsGo]
  | one :: r, found => by
    unfold lotsGo
    rw [lotsGo_len r, List.length_append, List.length_map, List.length_cons, Nat.pow_succ]
    rw [show found.length + found.length = found.length * 2 by omega, Nat.mul_assoc, Nat.mul_comm 2]
theorem lots_len {full : L} (h : full.length ≤ 6) : (lots full).length ≤ 64 := by
  unfold lots
  rw [lotsGo_len]
  have : 2 ^ full.length ≤ 2 ^ 6 := Nat.pow_le_pow_right (by omega) h
  simpa using this
theorem sub_len {full : L} (nd : full.Nodup) (h : full.length ≤ 6) {ls : List L} (hn : ls.Nodup) (hs : ∀ x ∈ ls, Sub full x) : ls.length ≤ 64 := by
  have pm : ls.Perm ((lots full).filter fun x => decide (x ∈ ls)) := (List.perm_ext_iff_of_nodup hn ((lots_nodup nd).filter _)).mpr fun x => by
    rw [List.mem_filter, mem_lots, decide_eq_true_eq]
    exact ⟨fun hx => ⟨hs x hx, hx⟩, fun hx => hx.2⟩
  rw [pm.length_eq]
  exact Nat.le_trans (List.length_filter_le _ _) (lots_len h)
/-- f(xs), xs a list of this def's own that is handed over -/
theorem nx_asg_frz {F : FE} {env : En} {i k j : Nat} {c : C} {x : Tk.D} {o : Option S} (hi : env[i]? = some (some (.own c))) (hk : env[k]? = some o) (hn : ∀ c, o ≠ some (.io c)) (hik : i ≠ k) (h : PF (F j) [c.toD] x) :
    evS F (.asg (.name k) (.call j (.v (.frz i) .nil) .nil [])) env = .ok .nx ((env.set i (some (.d c.toD))).set k (some (.d x))) := by
  have hx : Vx F (.call j (.v (.con c.toD) .nil) .nil []) (env.set i (some (.d c.toD))) x := vx_call (xs := [c.toD]) (ax_cons vx_con ax_nil) ax_nil rfl h
  have e1 : evE F (.call j (.v (.frz i) .nil) .nil []) env = evE F (.call j (.v (.con c.toD) .nil) .nil []) (env.set i (some (.d c.toD))) := by
    simp only [evE, evAs, hi, Res.frz, Res.bind_ok, R.frz]
  have := nx_asg (F := F) (i := k) (o := o) hx (by rw [get_set, if_neg hik]; exact hk) hn
  simp only [evS] at this ⊢
  rw [e1]
  exact this
theorem sz7 {m : Nat} (h : m ≤ 64) {k : Nat} (hk : k ≤ 6) : m * (k + 1) ≤ 448 := by
  have : m * (k + 1) ≤ 64 * 7 := Nat.mul_le_mul h (by omega)
  omega
theorem line448 : 448 < sizeLine := by decide
theorem pf_dual {full : L} {some_ : List L} (nd : full.Nodup) (gf : Gd full) (h6 : full.length ≤ 6) (hs : ∀ x ∈ some_, Sub full x) :
    PF (evN ds (n + 3) 4) [tl full, .lst (some_.map tl)] (.lst ((dual full some_).map tl)) := by
  refine pf_of (G := evN ds (n + 2)) (np := 2) (ns := 8) (body := b4) rfl rfl ?_
  show Rx _ b4 [some (.d (tl full)), some (.d (.lst (some_.map tl))), none, none, none, none, none, none] _
  refine rx_then (env1 := ED full some_ [full] none none none none none) (nx_asg (i := 2) (o := none) (vx_lst (xs := [tl full]) (vxs_cons (vx_bi (x := tl full) (vx_var rfl) rfl rfl) vxs_nil) (by show 1 ≤ sizeLine; decide)) rfl (fun c z => nomatch z)) ?_
  obtain ⟨en', h1, h2⟩ := nx_for (F := evN ds (n + 2)) (tg := .name 3) (it := .seq (.var 1)) (env := ED full some_ [full] none none none none none) (items := some_.map tl)
    (b := .cons (.own 4 (.lst (.nil))) (.cons (.for_ (.seq (.var 2)) (.name 5) (.cons (.ife (.call 1 (.v (.var 5) (.v (.var 3) (.nil))) (.nil) []) (.cons (.ext 4 (.lc (.seq (.var 3)) (.name 7) [7] .none (.bi .tuple (.lc (.seq (.var 5)) (.name 6) [6] (.some (.cmp .ne (.var 6) (.var 7))) (.var 6))))) (.nil)) (.cons (.app 4 (.var 5)) (.nil))) (.nil))) (.cons (.asg (.name 2) (.call 2 (.v (.frz 4) (.nil)) (.nil) [])) (.nil))))
    (fun rest en => ∃ (ahead behind : List L) (found : List L) (lot later o : Option S), some_ = ahead ++ behind ∧ rest = behind.map tl ∧ en = ED full some_ found lot later o none none ∧ Dual full ahead found ∧ dualGo found behind = dual full some_ ∧ (∀ c, lot ≠ some (.io c)) ∧ (∀ c, later ≠ some (.io c)) ∧ ∀ c, o ≠ some (.io c))
    (ix_seq (vx_var rfl) rfl) ⟨[], some_, [full], none, none, none, rfl, rfl, rfl, Dual.start, rfl, fun c z => (nomatch z), fun c z => (nomatch z), fun c z => (nomatch z)⟩ (by
      rintro x r en ⟨ahead, behind, found, lot0, later, o, e1, e2, rfl, D, e3, i1, i2, i3⟩
      cases behind with
      | nil => cases e2
      | cons lot rest =>
        rw [List.map_cons] at e2
        injection e2 with hx hr
        subst hx; subst hr
        have hl : lot ∈ some_ := by rw [e1]; simp
        have gl : Gd lot := gd_sub gf (hs lot hl)
        have gfd : ∀ x ∈ found, Gd x := fun x hx => gd_sub gf (D.sub x hx)
        have hz := sz7 (sub_len nd h6 D.nd D.sub) (Nat.le_trans (hs lot hl).length_le h6)
        have hz1 : found.length * (lot.length + 1) ≤ sizeLine := Nat.le_trans hz (Nat.le_of_lt line448)
        have hz2 : (laterOf lot found).length < sizeLine := Nat.lt_of_le_of_lt (Nat.le_trans (later_len lot found) hz) line448
        obtain ⟨o', h4, h5⟩ := dual_in (F := evN ds (n + 2)) (full := full) (some_ := some_) (found := found) (lot := lot) (o := o) (p := none) (g := none) (fun one ho => pf_has (n := n + 1) (gfd one ho) gl) gfd gl hz1 i3
        refine ⟨ED full some_ found (some (.d (tl lot))) later o none none, ED full some_ (greatest (laterOf lot found)) (some (.d (tl lot))) (some (.d (.lst ((laterOf lot found).map tl)))) o' none none, ?_, ?_, ahead ++ [lot], rest, _, _, _, _, by rw [e1]; simp, rfl, rfl, D.step nd lot, e3, (fun c z => nomatch z), (fun c z => nomatch z), h5⟩
        · unfold bindS
          have : noIo (ED full some_ found lot0 later o none none) (IT.slots (.name 3)) = true := by
            match lot0, i1 with
            | none, _ => rfl
            | some (.d _), _ => rfl
            | some (.own _), _ => rfl
            | some (.io c), h => exact absurd rfl (h c)
          rw [if_pos this]
          rfl
        · have own4 : evS (evN ds (n + 2)) (.own 4 (.lst .nil)) (ED full some_ found (some (.d (tl lot))) later o none none) = .ok .nx (ED full some_ found (some (.d (tl lot))) (some (.own (.lst []))) o none none) := by
            have hset : setS (ED full some_ found (some (.d (tl lot))) later o none none) 4 (.own (.lst [])) = some (ED full some_ found (some (.d (tl lot))) (some (.own (.lst []))) o none none) := by
              match later, i2 with
              | none, _ => rfl
              | some (.d _), _ => rfl
              | some (.own _), _ => rfl
              | some (.io c), h => exact absurd rfl (h c)
            have hv : evE (evN ds (n + 2)) (.lst .nil) (ED full some_ found (some (.d (tl lot))) later o none none) = .ok (.own (.lst [])) (ED full some_ found (some (.d (tl lot))) later o none none) := by
              simp only [evE, evEs, Res.bind_ok, allD, Option.bind, List.length_nil, Nat.zero_le, if_true, lift]
            simp only [evS, hv, Res.bind_ok, ownS, Option.bind, hset, lift]
          refine nx_then own4 (nx_then h4 (nx_then ((nx_asg_frz (c := .lst ((laterOf lot found).map tl)) (o := some (.d (.lst (found.map tl)))) rfl rfl (fun c z => nomatch z) (by decide) (pf_greatest (n := n) (gd_later gf D.sub) hz2)).trans ?_) nx_nil))
          rfl)
  obtain ⟨ahead, behind, found, lot0, later, o, e1, e2, rfl, D, e3, i1, i2, i3⟩ := h2
  have hb : behind = [] := by
    cases behind with
    | nil => rfl
    | cons _ _ => cases e2
  subst hb
  have e3 : found = dual full some_ := e3
  subst e3
  refine rx_then h1 (rx_ret (vx_var rfl) ?_)
  have one : ∀ (s : Option S) (r : En), (∀ c, s ≠ some (.io c)) → outsOf (s :: r) = outsOf r := fun s r h => by
    match s, h with
    | none, _ => rfl
    | some (.d _), _ => rfl
    | some (.own _), _ => rfl
    | some (.io c), h => exact absurd rfl (h c)
  show outsOf (lot0 :: later :: o :: [none, none]) = []
  rw [one _ _ i1, one _ _ i2, one _ _ i3]
  rfl
/-! ### lots, within, ordered -/
theorem pf_lots {full : L} (gf : Gd full) (h6 : full.length ≤ 6) : PF (evN ds (n + 1) 9) [tl full] (.lst ((lots full).map tl)) := by
  refine pf_of (G := evN ds n) (np := 1) (ns := 4) (body := b9) rfl rfl ?_
  show Rx _ b9 [some (.d (tl full)), none, none, none] _
  refine rx_then (env1 := [some (.d (tl full)), some (.d (.lst ([[]].map tl))), none, none]) (nx_asg (i := 1) (o := none) (vx_lst (xs := [tl []]) (vxs_cons (vx_tup (xs := []) vxs_nil (by decide)) vxs_nil) (by show 1 ≤ sizeLine; decide)) rfl (fun c z => nomatch z)) ?_
  obtain ⟨en', h1, h2⟩ := nx_for (F := evN ds n) (tg := .name 2) (it := .seq (.var 0)) (env := [some (.d (tl full)), some (.d (.lst ([[]].map tl))), none, none]) (items := full.map .str)
    (b := .cons (.asg (.name 1) (.bin .add (.var 1) (.lc (.seq (.var 1)) (.name 3) [3] .none (.bin .add (.var 3) (.tup (.cons (.var 2) (.nil))))))) (.nil))
    (fun rest en => ∃ (behind : L) (found : List L) (o : Option Tk.D), rest = behind.map .str ∧ en = [some (.d (tl full)), some (.d (.lst (found.map tl))), o.map .d, none] ∧ lotsGo found behind = lots full ∧ found.length * 2 ^ behind.length ≤ 64 ∧ (∀ a ∈ found, a.length + behind.length ≤ 6))
    (ix_seq (vx_var rfl) rfl) ⟨full, [[]], none, rfl, rfl, rfl, by
      have : 2 ^ full.length ≤ 2 ^ 6 := Nat.pow_le_pow_right (by omega) h6
      simpa using this, fun a ha => by rw [List.mem_singleton] at ha; subst ha; simpa using h6⟩ (by
      rintro x r en ⟨behind, found, o, e1, rfl, e2, e3, e4⟩
      cases behind with
      | nil => cases e1
      | cons one rest =>
        rw [List.map_cons] at e1
        injection e1 with hx hr
        subst hx; subst hr
        have e5 : (found ++ found.map fun lot => lot ++ [one]).length * 2 ^ rest.length ≤ 64 := by
          rw [List.length_append, List.length_map, show found.length + found.length = found.length * 2 by omega, Nat.mul_assoc, Nat.mul_comm 2, ← Nat.pow_succ]
          exact e3
        have e6 : (found ++ found.map fun lot => lot ++ [one]).length ≤ 64 := Nat.le_trans (Nat.le_mul_of_pos_right _ (Nat.pow_pos (by omega))) e5
        refine ⟨[some (.d (tl full)), some (.d (.lst (found.map tl))), some (.d (.str one)), none], [some (.d (tl full)), some (.d (.lst ((found ++ found.map fun lot => lot ++ [one]).map tl))), some (.d (.str one)), none], ?_, ?_, rest, _, some (.str one), rfl, rfl, e2, e5, fun a ha => ?_⟩
        · cases o <;> rfl
        · refine nx_then ((nx_asg (i := 1) (o := some (.d (.lst (found.map tl)))) (vx_bin (x := .lst (found.map tl)) (y := .lst ((found.map fun lot => lot ++ [one]).map tl)) (r := .own (.lst (found.map tl ++ (found.map fun lot => lot ++ [one]).map tl))) (vx_var rfl) (vx_lcn (i := 3) tl found (fun lot => tl (lot ++ [one])) (ix_seq (vx_var rfl) rfl) (fun lot hlot => ?_) (by rw [List.map_map]; rfl)) ?_ rfl) rfl (fun c z => nomatch z)).trans ?_) nx_nil
          · refine vx_bin (x := tl lot) (y := .tup [.str one]) (r := .d (.tup (lot.map .str ++ [.str one]))) (vx_var rfl) (vx_tup (xs := [.str one]) (vxs_cons (vx_var rfl) vxs_nil) (by show 1 ≤ sizeLine; decide)) ?_ (by show W.d (.tup (lot.map .str ++ [.str one])) = W.d (.tup ((lot ++ [one]).map .str)); rw [List.map_append]; rfl)
            have hl := e4 lot hlot
            rw [List.length_cons] at hl
            exact if_pos (show (lot.map Tk.D.str).length + 1 ≤ sizeLine by rw [List.length_map]; exact Nat.le_trans (by omega : lot.length + 1 ≤ 448) (Nat.le_of_lt line448))
          · refine if_pos ?_
            rw [List.length_append, List.length_map] at e6
            rw [List.length_map, List.length_map, List.length_map]
            exact Nat.le_trans (by omega : found.length + found.length ≤ 448) (Nat.le_of_lt line448)
          · rw [List.map_append]
            rfl
        · rcases List.mem_append.mp ha with ha | ha
          · have := e4 a ha
            rw [List.length_cons] at this
            omega
          · obtain ⟨c, hc, rfl⟩ := List.mem_map.mp ha
            have := e4 c hc
            rw [List.length_cons] at this
            rw [List.length_append, List.length_singleton]
            omega)
  obtain ⟨behind, found, o, e1, rfl, e2, _, _⟩ := h2
  have hb : behind = [] := by
    cases behind with
    | nil => rfl
    | cons _ _ => cases e1
  subst hb
  have e2 : found = lots full := e2
  subst e2
  refine rx_then h1 (rx_ret (vx_var rfl) ?_)
  cases o <;> rfl
theorem pf_within {a b : L} (ha : Gd a) (hb : Gd b) : PF (evN ds (n + 1) 10) [tl a, tl b] (.bl (holds b a)) := by
  refine pf_of (G := evN ds n) (np := 2) (ns := 3) (body := b10) rfl rfl ?_
  show Rx _ b10 [some (.d (tl a)), some (.d (tl b)), none] _
  refine rx_ret (vx_cmp (x := .lst ((a.filter fun s => !decide (s ∈ b)).map .str)) (y := .lst []) (vx_lcf (i := 2) Tk.D.str a (fun s => !decide (s ∈ b)) (by show 2 < 3; decide) (ix_seq (vx_var rfl) rfl) (fun s hs => ?_) rfl) (vx_lst (xs := []) vxs_nil (by decide)) ?_) rfl
  · refine vx_cmp (x := .str s) (y := tl b) (vx_var rfl) (vx_var rfl) ?_
    show (inD (.str s) (b.map .str)).map (!·) = _
    rw [inD_str (ha s hs) hb]
    rfl
  · show eqD _ _ = _
    rw [show (Tk.D.lst []) = .lst (([] : L).map .str) from rfl, eqD_strs (fun s hs => ha s (List.mem_filter.mp hs).1) (by simp [Gd])]
    congr 1
    rw [Bool.eq_iff_iff, decide_eq_true_eq, holds_iff, List.filter_eq_nil_iff]
    simp
/-- a list or a tuple of texts -/
def isSeq (x : Tk.D) (a : L) : Prop := x = tl a ∨ x = .lst (a.map .str)
theorem pf_ordered {full lot : L} {x y : Tk.D} (hx : isSeq x full) (hy : isSeq y lot) (gf : Gd full) (gl : Gd lot) : PF (evN ds (n + 1) 0) [x, y] (tl (full.filter fun s => decide (s ∈ lot))) := by
  refine pf_of (G := evN ds n) (np := 2) (ns := 3) (body := b0) rfl rfl ?_
  show Rx _ b0 [some (.d x), some (.d y), none] _
  refine rx_ret (vx_bi (r := .d (tl (full.filter fun s => decide (s ∈ lot)))) (x := .lst ((full.filter fun s => decide (s ∈ lot)).map .str)) (vx_lcf (i := 2) Tk.D.str full (fun s => decide (s ∈ lot)) (by show 2 < 3; decide) (ix_seq (vx_var rfl) ?_) (fun s hs => ?_) rfl) rfl rfl) rfl
  · rcases hx with rfl | rfl <;> rfl
  · refine vx_cmp (x := .str s) (y := y) (vx_var rfl) (vx_var rfl) ?_
    have e : cmpD .inn (.str s) y = inD (.str s) (lot.map .str) := by rcases hy with rfl | rfl <;> rfl
    rw [e, inD_str (gf s hs) gl]
end K52

set_option Elab.async false
set_option linter.all false
set_option autoImplicit false
set_option maxRecDepth 100000
set_option maxHeartbeats 4000000
/-! k52: the pen. -/
namespace K52
open PySem Tk
variable {n : Nat}
abbrev pn (p : Int) : C := .lst [.int p]
/-- a draw -/
theorem draw_ok (p m : Int) : ∃ r p', evN ds (n + 1) 6 [.io (pn p), .d (.int m)] = .ok (.d (.int r)) [pn p'] ∧ (m < 1 → r = 0) ∧ (1 ≤ m → 0 ≤ r ∧ r < m) := by
  have e : evN ds (n + 1) 6 = runF (evN ds n) 2 2 b6 := rfl
  rw [e]
  by_cases hm : m < 1
  · refine ⟨0, p, ?_, fun _ => rfl, fun h => by omega⟩
    have h1 : evSs (evN ds n) b6 [some (.io (pn p)), some (.d (.int m))] = .ok (.ret (.d (.int 0))) [some (.io (pn p)), some (.d (.int m))] := by
      have hc : Vx (evN ds n) (.cmp .lt (.var 1) (.con (.int 1))) [some (.io (pn p)), some (.d (.int m))] (.bl true) := vx_cmp (x := .int m) (y := .int 1) (vx_var rfl) vx_con (by show some (decide (m < 1)) = _; rw [decide_eq_true hm])
      have h2 : evS (evN ds n) (.ife (.cmp .lt (.var 1) (.con (.int 1))) (.cons (.ret (.con (.int 0))) .nil) .nil) [some (.io (pn p)), some (.d (.int m))] = .ok (.ret (.d (.int 0))) [some (.io (pn p)), some (.d (.int m))] := by
        rw [es_if hc, if_pos rfl]
        exact evs_ret (by simp only [evE])
      simp only [b6, evSs, h2, Res.bind_ok]
    exact runF_d (np := 2) (ns := 2) (args := [.io (pn p), .d (.int m)]) rfl h1
  · let q := (p * 6364136223846793005 + 1442695040888963407) % 2 ^ 64
    refine ⟨(q / 65537) % m, q, ?_, fun h => by omega, fun h => ⟨Int.emod_nonneg _ (by omega), Int.emod_lt_of_pos _ (by omega)⟩⟩
    have h1 : evSs (evN ds n) b6 [some (.io (pn p)), some (.d (.int m))] = .ok (.ret (.d (.int ((q / 65537) % m)))) [some (.io (pn q)), some (.d (.int m))] := by
      refine evs_then (fl := .nx) (nx_no (vx_cmp (x := .int m) (y := .int 1) (vx_var rfl) vx_con (by show some (decide (m < 1)) = _; rw [decide_eq_false hm]))) ?_
      refine evs_then (fl := .nx) (env1 := [some (.io (pn q)), some (.d (.int m))]) (nx_seti (x := .int q) (l := [.int p]) (n := 0) (m := 0) ?_ rfl vx_con rfl) ?_
      · refine vx_bin (x := .int (p * 6364136223846793005 + 1442695040888963407)) (y := .int (2 ^ 64)) (r := .d (.int q)) (vx_bi (x := .int (p * 6364136223846793005 + 1442695040888963407)) (vx_bin (x := .int (p * 6364136223846793005)) (y := .int 1442695040888963407) (vx_bin (x := .int p) (y := .int 6364136223846793005) (vx_idxB (c := pn p) (y := .int 0) rfl vx_con rfl) vx_con (bin_mul (by decide)) rfl) vx_con rfl rfl) rfl rfl)
          (vx_bin (x := .int 2) (y := .int 64) (r := .d (.int (2 ^ 64))) vx_con vx_con rfl rfl) (bin_mod (by decide)) rfl
      · have h5 : Vx (evN ds n) (.bin .mod (.bi .int (.bin .fdiv (.idx (.var 0) (.con (.int 0))) (.con (.int 65537)))) (.var 1)) [some (.io (pn q)), some (.d (.int m))] (.int ((q / 65537) % m)) :=
          vx_bin (x := .int (q / 65537)) (y := .int m) (r := .d (.int ((q / 65537) % m))) (vx_bi (x := .int (q / 65537)) (vx_bin (x := .int q) (y := .int 65537) (r := .d (.int (q / 65537))) (vx_idxB (c := pn q) (y := .int 0) rfl vx_con rfl) vx_con (bin_fdiv (by decide)) rfl) rfl rfl) (vx_var rfl) (bin_mod (by omega)) rfl
        obtain ⟨r, e1, e2⟩ := vx_raw h5
        cases r with
        | d z => injection e2 with e2; subst e2; exact evs_ret e1
        | own c => exfalso; revert e2; cases c <;> exact fun z => by injection z with z; cases z
        | bor i => cases e2
    exact runF_d (np := 2) (ns := 2) (args := [.io (pn p), .d (.int m)]) rfl h1
/-- from a def that holds the pen -/
theorem draw_ev {env : En} {i : Nat} {p m : Int} {a : IE} (hc : cellAt env i = some (pn p)) (ha : Vx (evN ds (n + 1)) a env (.int m)) :
    ∃ r p', evE (evN ds (n + 1)) (.call 6 (.io i (.v a .nil)) .nil []) env = .ok (.d (.int r)) (putCell env i (pn p')) ∧ (m < 1 → r = 0) ∧ (1 ≤ m → 0 ≤ r ∧ r < m) := by
  obtain ⟨r, p', h1, h2⟩ := draw_ok (n := n) p m
  exact ⟨r, p', call_io hc (ax_cons ha ax_nil) h1, h2⟩
/-- a pick -/
theorem pick_ok {α : Type} (g : α → Tk.D) (l : List α) (hl : l ≠ []) (p : Int) : ∃ x ∈ l, ∃ p', evN ds (n + 2) 7 [.io (pn p), .d (.lst (l.map g))] = .ok (.d (g x)) [pn p'] := by
  have e : evN ds (n + 2) 7 = runF (evN ds (n + 1)) 2 2 b7 := rfl
  rw [e]
  have hlen : 1 ≤ (l.length : Int) := by
    cases l with
    | nil => exact absurd rfl hl
    | cons a l => simp; omega
  obtain ⟨r, p', h1, _, h3⟩ := draw_ev (n := n) (env := [some (.io (pn p)), some (.d (.lst (l.map g)))]) (i := 0) (p := p) (m := ((l.map g).length : Int)) (a := .bi .len (.var 1)) rfl (vx_bi (x := .lst (l.map g)) (vx_var rfl) rfl rfl)
  rw [List.length_map] at h3
  obtain ⟨h4, h5⟩ := h3 hlen
  obtain ⟨k, rfl⟩ : ∃ k : Nat, r = k := ⟨r.toNat, by omega⟩
  have hr : k < l.length := by omega
  refine ⟨l[k], List.getElem_mem hr, p', ?_⟩
  have hidx : idxD (.lst (l.map g)) (.int k) = some (g l[k]) := L2.atI_nat (by rw [List.getElem?_map, List.getElem?_eq_getElem hr]; rfl)
  have h6 : evE (evN ds (n + 1)) (.idx (.var 1) (.call 6 (.io 0 (.v (.bi .len (.var 1)) .nil)) .nil [])) [some (.io (pn p)), some (.d (.lst (l.map g)))] = .ok (.d (g l[k])) [some (.io (pn p')), some (.d (.lst (l.map g)))] := by
    have v1 : (evE (evN ds (n + 1)) (.var 1) [some (.io (pn p)), some (.d (.lst (l.map g)))]).frz = .ok (.d (.lst (l.map g))) [some (.io (pn p)), some (.d (.lst (l.map g)))] := vx_var rfl
    rw [evE, v1, Res.bind_ok, h1]
    show lift ((some (Tk.D.lst (l.map g))).bind fun u => (some (Tk.D.int k)).bind fun w => (idxD u w).map R.d) _ = _
    simp only [Option.bind, hidx, Option.map, lift]
    rfl
  exact runF_d (np := 2) (ns := 2) (args := [.io (pn p), .d (.lst (l.map g))]) rfl (evs_ret h6)
theorem pick_ev {α : Type} (g : α → Tk.D) (l : List α) (hl : l ≠ []) {env : En} {i : Nat} {p : Int} {a : IE} (hc : cellAt env i = some (pn p)) (ha : Vx (evN ds (n + 2)) a env (.lst (l.map g))) :
    ∃ x ∈ l, ∃ p', evE (evN ds (n + 2)) (.call 7 (.io i (.v a .nil)) .nil []) env = .ok (.d (g x)) (putCell env i (pn p')) := by
  obtain ⟨x, hx, p', h1⟩ := pick_ok (n := n) g l hl p
  exact ⟨x, hx, p', call_io hc (ax_cons ha ax_nil) h1⟩
/-! mixed -/
theorem erase_map {α β : Type} (g : α → β) : ∀ (l : List α) (k : Nat), (l.map g).eraseIdx k = (l.eraseIdx k).map g
  | [], k => rfl
  | x :: l, 0 => rfl
  | x :: l, k + 1 => by
    show g x :: (l.map g).eraseIdx k = g x :: (l.eraseIdx k).map g
    rw [erase_map g l k]
theorem mix_go {a0 : Tk.D} : ∀ (m : Nat) (left found : L) (p : Int), left.length ≤ m → m + found.length ≤ 100 → ∃ (left' found' : L) (p' : Int), (∀ s ∈ found', s ∈ left ∨ s ∈ found) ∧
    (Gd left → whGo (fun en => (evE (evN ds (n + 1)) (.cmp .ne (.var 2) (.lst .nil)) en).tru) (fun en => evSs (evN ds (n + 1)) (.cons (.app 3 (.pop 2 (.some (.call 6 (.io 0 (.v (.bi .len (.var 2)) .nil)) .nil [])))) .nil) en) (m + 1) [some (.io (pn p)), some (.d a0), some (.own (.lst (left.map .str))), some (.own (.lst (found.map .str)))] =
      .ok .nx [some (.io (pn p')), some (.d a0), some (.own (.lst (left'.map .str))), some (.own (.lst (found'.map .str)))])
  | m, [], found, p, hm, _ => by
    refine ⟨[], found, p, fun s h => .inr h, fun _ => ?_⟩
    have hc : Vx (evN ds (n + 1)) (.cmp .ne (.var 2) (.lst .nil)) [some (.io (pn p)), some (.d a0), some (.own (.lst (([] : L).map .str))), some (.own (.lst (found.map .str)))] (.bl false) :=
      vx_cmpB (c := .lst (([] : L).map .str)) (y := .lst []) rfl (vx_lst (xs := []) vxs_nil (by decide)) rfl
    simp only [whGo, vx_tru hc, Res.bind_ok, Bool.false_eq_true, if_false]
  | 0, x :: left, found, p, hm, _ => by simp at hm
  | m + 1, x :: left, found, p, hm, hz => by
    let left0 := x :: left
    let E : Int → L → L → En := fun p l f => [some (.io (pn p)), some (.d a0), some (.own (.lst (l.map .str))), some (.own (.lst (f.map .str)))]
    have hlen : 1 ≤ (left0.length : Int) := by show 1 ≤ (((x :: left).length : Nat) : Int); rw [List.length_cons]; omega
    have hl : Vx (evN ds (n + 1)) (.bi .len (.var 2)) (E p left0 found) (.int ((left0.map Tk.D.str).length : Nat)) := vx_biB (c := .lst (left0.map .str)) (r := .d (.int ((left0.map Tk.D.str).length : Nat))) rfl rfl rfl
    obtain ⟨r, p1, h1, _, h3⟩ := draw_ev (n := n) (env := E p left0 found) (i := 0) (p := p) (m := ((left0.map Tk.D.str).length : Nat)) (a := .bi .len (.var 2)) rfl hl
    rw [List.length_map] at h3
    obtain ⟨h4, h5⟩ := h3 hlen
    obtain ⟨k, rfl⟩ : ∃ k : Nat, r = k := ⟨r.toNat, by omega⟩
    have hk : k < left0.length := by omega
    obtain ⟨left', found', p', i1, i2⟩ := mix_go m (left0.eraseIdx k) (found ++ [left0[k]]) p1 (by
      rw [List.length_eraseIdx_of_lt hk]
      have : left0.length ≤ m + 1 := hm
      omega) (by rw [List.length_append, List.length_singleton]; omega)
    refine ⟨left', found', p', fun s hs => ?_, fun gl => ?_⟩
    · rcases i1 s hs with z | z
      · exact .inl (List.eraseIdx_subset z)
      · rcases List.mem_append.mp z with z | z
        · exact .inr z
        · rw [List.mem_singleton] at z
          subst z
          exact .inl (List.getElem_mem hk)
    · have hc : Vx (evN ds (n + 1)) (.cmp .ne (.var 2) (.lst .nil)) (E p left0 found) (.bl true) := by
        refine vx_cmpB (c := .lst (left0.map .str)) (y := .lst []) rfl (vx_lst (xs := []) vxs_nil (by decide)) ?_
        show (eqD (.lst (left0.map .str)) (.lst (([] : L).map .str))).map (!·) = _
        rw [eqD_strs gl (by simp [Gd])]
        rfl
      have hpop : evE (evN ds (n + 1)) (.pop 2 (.some (.call 6 (.io 0 (.v (.bi .len (.var 2)) .nil)) .nil []))) (E p left0 found) = .ok (.d (.str left0[k])) (E p1 (left0.eraseIdx k) found) := by
        have hval : (evE (evN ds (n + 1)) (.call 6 (.io 0 (.v (.bi .len (.var 2)) .nil)) .nil []) (E p left0 found)).val = .ok (.int k) (E p1 left0 found) := by
          rw [h1]
          rfl
        have c0 : cellAt (E p left0 found) 2 = some (.lst (left0.map .str)) := rfl
        have c1 : cellAt (E p1 left0 found) 2 = some (.lst (left0.map .str)) := rfl
        have hseq : seqIndex? (k : Int) (left0.map Tk.D.str).length = some k := by
          rw [List.length_map]
          exact L2.ixN_seq (by unfold L2.ixN; rw [if_pos (by omega), if_pos (by omega)]; rfl) |>.1
        have hget : (left0.map Tk.D.str)[k]? = some (.str left0[k]) := by rw [List.getElem?_map, List.getElem?_eq_getElem hk]; rfl
        have hb : -(2 ^ 63) ≤ (k : Int) ∧ (k : Int) < 2 ^ 63 := by
          have : left0.length ≤ m + 1 := hm
          omega
        refine (ev_popAt c0 hval c1 hb hseq hget).trans ?_
        rw [erase_map]
        rfl
      have happ : evS (evN ds (n + 1)) (.app 3 (.pop 2 (.some (.call 6 (.io 0 (.v (.bi .len (.var 2)) .nil)) .nil [])))) (E p left0 found) = .ok .nx (E p1 (left0.eraseIdx k) (found ++ [left0[k]])) := by
        have d0 : cellAt (E p left0 found) 3 = some (.lst (found.map .str)) := rfl
        have d1 : cellAt (E p1 (left0.eraseIdx k) found) 3 = some (.lst (found.map .str)) := rfl
        have hf : (evE (evN ds (n + 1)) (.pop 2 (.some (.call 6 (.io 0 (.v (.bi .len (.var 2)) .nil)) .nil []))) (E p left0 found)).frz = .ok (.d (.str left0[k])) (E p1 (left0.eraseIdx k) found) := by rw [hpop]; rfl
        have hz : (found.map Tk.D.str).length < sizeLine := by
          rw [List.length_map]
          exact Nat.lt_of_le_of_lt (by omega : found.length ≤ 448) line448
        simp only [evS, d0, hf, Res.bind_ok, d1, hz, if_true]
        show Res.ok _ (putCell _ 3 (.lst (found.map Tk.D.str ++ [.str left0[k]]))) = _
        have : found.map Tk.D.str ++ [.str left0[k]] = (found ++ [left0[k]]).map .str := by rw [List.map_append]; rfl
        rw [this]
        rfl
      have hgl : Gd (left0.eraseIdx k) := fun s hs => gl s (List.eraseIdx_subset hs)
      have hr := i2 hgl
      have step : evSs (evN ds (n + 1)) (.cons (.app 3 (.pop 2 (.some (.call 6 (.io 0 (.v (.bi .len (.var 2)) .nil)) .nil [])))) .nil) (E p left0 found) = .ok .nx (E p1 (left0.eraseIdx k) (found ++ [left0[k]])) := nx_then happ nx_nil
      have u : whGo (fun en => (evE (evN ds (n + 1)) (.cmp .ne (.var 2) (.lst .nil)) en).tru) (fun en => evSs (evN ds (n + 1)) (.cons (.app 3 (.pop 2 (.some (.call 6 (.io 0 (.v (.bi .len (.var 2)) .nil)) .nil [])))) .nil) en) (m + 1 + 1) (E p left0 found) =
          whGo (fun en => (evE (evN ds (n + 1)) (.cmp .ne (.var 2) (.lst .nil)) en).tru) (fun en => evSs (evN ds (n + 1)) (.cons (.app 3 (.pop 2 (.some (.call 6 (.io 0 (.v (.bi .len (.var 2)) .nil)) .nil [])))) .nil) en) (m + 1) (E p1 (left0.eraseIdx k) (found ++ [left0[k]])) := by
        rw [whGo, vx_tru hc, Res.bind_ok, if_pos rfl, step, Res.bind_ok]
      exact u.trans hr
/-- the loop does not hang on how much is allowed -/
theorem wh_more {c : En → Res En Bool} {b : En → Res En Fl} : ∀ (m k : Nat) (env env' : En), whGo c b m env = .ok .nx env' → whGo c b (m + k) env = .ok .nx env'
  | 0, k, env, env', h => by cases h
  | m + 1, k, env, env', h => by
    rw [show m + 1 + k = (m + k) + 1 by omega]
    rw [whGo] at h ⊢
    cases q : c env with
    | stuck => rw [q] at h; cases h
    | exc x s => rw [q] at h; cases h
    | ok t en1 =>
      rw [q, Res.bind_ok] at h
      rw [Res.bind_ok]
      cases t with
      | false => exact h
      | true =>
        rw [if_pos rfl] at h ⊢
        cases q2 : b en1 with
        | stuck => rw [q2] at h; cases h
        | exc x s => rw [q2] at h; cases h
        | ok fl en2 =>
          rw [q2, Res.bind_ok] at h
          rw [Res.bind_ok]
          cases fl with
          | nx => exact wh_more m k en2 env' h
          | cnt => exact wh_more m k en2 env' h
          | brk => exact h
          | ret v => cases h
theorem mixed_ok {a : L} (ga : Gd a) (h6 : a.length ≤ 6) (p : Int) : ∃ (b : L) (p' : Int), (∀ s ∈ b, s ∈ a) ∧ evN ds (n + 2) 8 [.io (pn p), .d (.lst (a.map .str))] = .ok (.own (.lst (b.map .str))) [pn p'] := by
  have e : evN ds (n + 2) 8 = runF (evN ds (n + 1)) 2 4 b8 := rfl
  rw [e]
  obtain ⟨left', found', p', h1, h2⟩ := mix_go (n := n) (a0 := .lst (a.map .str)) 6 a [] p h6 (by simp)
  refine ⟨found', p', fun s hs => (h1 s hs).resolve_right (by simp), ?_⟩
  have h3 := wh_more 7 93 _ _ (h2 ga)
  let E : Int → L → L → En := fun p l f => [some (.io (pn p)), some (.d (.lst (a.map .str))), some (.own (.lst (l.map .str))), some (.own (.lst (f.map .str)))]
  have pr : evS (evN ds (n + 1)) (.pair 2 3 (.bi .list (.var 1)) (.lst .nil)) [some (.io (pn p)), some (.d (.lst (a.map .str))), none, none] = .ok .nx (E p a []) := by
    have v1 : evE (evN ds (n + 1)) (.bi .list (.var 1)) [some (.io (pn p)), some (.d (.lst (a.map .str))), none, none] = .ok (.own (.lst (a.map .str))) [some (.io (pn p)), some (.d (.lst (a.map .str))), none, none] := by
      have v0 : (evE (evN ds (n + 1)) (.var 1) [some (.io (pn p)), some (.d (.lst (a.map .str))), none, none]).frz = .ok (.d (.lst (a.map .str))) [some (.io (pn p)), some (.d (.lst (a.map .str))), none, none] := vx_var rfl
      simp only [evE] at v0 ⊢
      rw [v0]
      rfl
    have v2 : ∀ en : En, evE (evN ds (n + 1)) (.lst .nil) en = .ok (.own (.lst [])) en := fun en => by
      simp only [evE, evEs, Res.bind_ok, allD, Option.bind, List.length_nil, Nat.zero_le, if_true, lift]
    simp only [evS, v1, v2, Res.bind_ok, ownS, Option.bind]
    rfl
  have wl : evS (evN ds (n + 1)) (.while_ 100 (.cmp .ne (.var 2) (.lst .nil)) (.cons (.app 3 (.pop 2 (.some (.call 6 (.io 0 (.v (.bi .len (.var 2)) .nil)) .nil [])))) .nil)) (E p a []) = .ok .nx (E p' left' found') := by
    simp only [evS]
    exact h3
  have all : evSs (evN ds (n + 1)) b8 [some (.io (pn p)), some (.d (.lst (a.map .str))), none, none] = .ok (.ret (.bor 3)) (E p' left' found') :=
    evs_then (fl := .nx) pr (evs_then (fl := .nx) wl (evs_ret (by simp only [evE]; rfl)))
  exact runF_bor (np := 2) (ns := 4) (c := .lst (found'.map .str)) (args := [.io (pn p), .d (.lst (a.map .str))]) rfl all rfl
/-! the pen made -/
theorem pen_ok (ns : List Int) : ∃ p, evN ds (n + 1) 5 [.d (.scr ns)] = .ok (.own (pn p)) [] := by
  have e : evN ds (n + 1) 5 = runF (evN ds n) 1 3 b5 := rfl
  rw [e]
  let E : Int → Option Tk.D → En := fun s c => [some (.d (.scr ns)), some (.d (.int s)), c.map .d]
  have a1 : evS (evN ds n) (.asg (.name 1) (.con (.int 82205))) [some (.d (.scr ns)), none, none] = .ok .nx (E 82205 none) := nx_asg (i := 1) (o := none) vx_con rfl (fun c z => nomatch z)
  obtain ⟨en', h1, h2⟩ := nx_for (F := evN ds n) (tg := .name 2) (it := .seq (.var 0)) (env := E 82205 none) (items := ns.map .int)
    (b := .cons (.asg (.name 1) (.bin .mod (.bi .int (.bin .add (.bin .add (.bin .mul (.var 1) (.con (.int 1000003))) (.bin .mod (.bi .int (.var 2)) (.bin .pow (.con (.int 10)) (.con (.int 18))))) (.con (.int 11097)))) (.bin .sub (.bin .pow (.con (.int 2)) (.con (.int 61))) (.con (.int 1))))) (.nil))
    (fun rest en => ∃ (r : List Int) (s : Int) (c : Option Tk.D), rest = r.map .int ∧ en = E s c) (ix_seq (vx_var rfl) rfl) ⟨ns, 82205, none, rfl, rfl⟩ (by
      rintro x r en ⟨l, s, c, e1, rfl⟩
      cases l with
      | nil => cases e1
      | cons v l =>
        rw [List.map_cons] at e1
        injection e1 with hx hr
        subst hx; subst hr
        refine ⟨E s (some (.int v)), E ((s * 1000003 + v % (10 ^ 18) + 11097) % (2 ^ 61 - 1)) (some (.int v)), by cases c <;> rfl, ?_, l, _, _, rfl, rfl⟩
        refine nx_then (nx_asg (i := 1) (o := some (.d (.int s))) (vx_bin (x := .int (s * 1000003 + v % (10 ^ 18) + 11097)) (y := .int (2 ^ 61 - 1)) (vx_bi (x := .int (s * 1000003 + v % (10 ^ 18) + 11097)) (vx_bin (x := .int (s * 1000003 + v % (10 ^ 18))) (y := .int 11097) (vx_bin (x := .int (s * 1000003)) (y := .int (v % (10 ^ 18))) (vx_bin (x := .int s) (y := .int 1000003) (vx_var rfl) vx_con (bin_mul (by decide)) rfl)
          (vx_bin (x := .int v) (y := .int (10 ^ 18)) (vx_bi (x := .int v) (vx_var rfl) rfl rfl) (vx_bin (x := .int 10) (y := .int 18) vx_con vx_con (bin_pow (by decide)) rfl) (bin_mod (by decide)) rfl) rfl rfl) vx_con rfl rfl) rfl rfl)
          (vx_bin (x := .int (2 ^ 61)) (y := .int 1) (vx_bin (x := .int 2) (y := .int 61) vx_con vx_con (bin_pow (by decide)) rfl) vx_con rfl rfl) (bin_mod (by decide)) rfl) rfl (fun c z => nomatch z)) nx_nil)
  obtain ⟨r, s, c, e1, rfl⟩ := h2
  refine ⟨s, ?_⟩
  have hv : Vx (evN ds n) (.lst (.cons (.var 1) .nil)) (E s c) (.lst [.int s]) := vx_lst (xs := [.int s]) (vxs_cons (vx_var rfl) vxs_nil) (by show 1 ≤ sizeLine; decide)
  have hv2 : evE (evN ds n) (.lst (.cons (.var 1) .nil)) (E s c) = .ok (.own (.lst [.int s])) (E s c) := by
    have q : evEs (evN ds n) (.cons (.var 1) .nil) (E s c) = .ok ([.int s].map W.d) (E s c) := vxs_cons (vx_var rfl) vxs_nil
    simp only [evE, q, Res.bind_ok, allD_map, Option.bind, lift]
    rfl
  have all : evSs (evN ds n) b5 [some (.d (.scr ns)), none, none] = .ok (.ret (.own (pn s))) (E s c) := evs_then (fl := .nx) a1 (evs_then (fl := .nx) h1 (evs_ret hv2))
  have := runF_own (np := 1) (ns := 3) (args := [.d (.scr ns)]) rfl all
  rw [this]
  cases c <;> rfl
end K52

set_option Elab.async false
set_option linter.all false
set_option autoImplicit false
set_option maxRecDepth 100000
set_option maxHeartbeats 4000000
/-! k52: pieces of a turn. -/
namespace K52
open PySem Tk
variable {n : Nat}
/-! what is sorted -/
theorem sort_tls {ls : List L} (hg : ∀ a ∈ ls, Gd a) (hn : ls.Nodup) (an : ∀ x ∈ ls, ∀ y ∈ ls, holds y x = true → y = x) : biD .sorted (.lst (ls.map tl)) = some (.own (.lst (srt ls))) := by
  have ok : sortOk (ls.map tl) = true := by
    unfold sortOk
    rw [Bool.and_eq_true, Bool.and_eq_true]
    refine ⟨⟨shps_tls hg, ?_⟩, ?_⟩
    · unfold alikeB
      rw [List.all_eq_true]
      intro x hx
      obtain ⟨a, _, rfl⟩ := List.mem_map.mp hx
      rw [List.all_eq_true]
      intro y hy
      obtain ⟨b, _, rfl⟩ := List.mem_map.mp hy
      exact alike_tl a b
    · rw [Bool.or_eq_true]
      by_cases h : [] ∈ ls
      · right
        have all : ∀ y ∈ ls, y = [] := fun y hy => an [] h y hy (holds_iff.mpr fun s hs => by simp at hs)
        have one : ls = [[]] := by
          cases ls with
          | nil => simp at h
          | cons x r =>
            have hx := all x List.mem_cons_self
            subst hx
            cases r with
            | nil => rfl
            | cons y r =>
              have hy := all y (List.mem_cons_of_mem _ List.mem_cons_self)
              subst hy
              simp at hn
        rw [one]
        rfl
      · left
        unfold sortableB
        rw [Bool.or_eq_true]
        left
        rw [List.all_eq_true]
        intro x hx
        obtain ⟨a, ha, rfl⟩ := List.mem_map.mp hx
        cases a with
        | nil => exact absurd ha h
        | cons s a => rfl
  show (sortD (ls.map tl)).map (fun l' => R.own (.lst l')) = _
  unfold sortD
  rw [if_pos ok]
  rfl
def sl (ls : List L) : List L := ls.mergeSort fun a b => le (tl a) (tl b)
theorem srt_sl (ls : List L) : srt ls = (sl ls).map tl := by
  unfold srt sl
  exact (PySem.W.sort_maps tl fun a _ b _ => rfl).symm
theorem sl_perm (ls : List L) : (sl ls).Perm ls := List.mergeSort_perm _ _
/-! x for at, x in enumerate(l) if x not in l[:at] -/
theorem cut_take {l : List Tk.D} {k : Nat} (h : k ≤ l.length) : cutD l none (some (k : Int)) = l.take k := by
  unfold cutD
  have e1 : HT.sIx l.length 0 none = 0 := rfl
  have e2 : HT.sIx l.length l.length (some (k : Int)) = k := by
    rw [HT.sIx_nat]
    omega
  rw [e1, e2, List.drop_zero, Nat.sub_zero]
theorem dd_zip : ∀ (r pre acc : List L), (∀ x, x ∈ acc ↔ x ∈ pre) → acc ++ ((r.zipIdx pre.length).filter fun q => !decide (q.1 ∈ (pre ++ r).take q.2)).map (·.1) = ddGo acc r
  | [], pre, acc, _ => by simp [ddGo]
  | x :: r, pre, acc, h => by
    rw [List.zipIdx_cons, List.filter_cons]
    have e : (pre ++ x :: r).take pre.length = pre := by simp
    have e2 : pre ++ x :: r = (pre ++ [x]) ++ r := by simp
    have e3 : pre.length + 1 = (pre ++ [x]).length := by simp
    unfold ddGo
    by_cases hx : x ∈ acc
    · have hp : x ∈ pre := (h x).mp hx
      simp only [e, hp, decide_true, Bool.not_true, Bool.false_eq_true, if_false, if_pos hx]
      rw [e2, e3]
      refine dd_zip r (pre ++ [x]) acc fun y => ?_
      rw [h y, List.mem_append, List.mem_singleton]
      constructor
      · exact .inl
      · rintro (q | rfl)
        · exact q
        · exact hp
    · have hp : x ∉ pre := fun z => hx ((h x).mpr z)
      simp only [e, hp, decide_false, Bool.not_false, if_true, if_neg hx, List.map_cons]
      rw [e2, e3]
      have := dd_zip r (pre ++ [x]) (acc ++ [x]) fun y => by rw [List.mem_append, List.mem_append, h y]
      rw [← this]
      simp
theorem dd_enum (ls : List L) : ((ls.zipIdx 0).filter fun q => !decide (q.1 ∈ ls.take q.2)).map (·.1) = dd ls := by
  have := dd_zip ls [] [] fun x => Iff.rfl
  simpa [dd] using this
/-! letters -/
def letters : L := ["a", "b", "c", "d", "e", "f"]
theorem letters_ok : letters.Nodup ∧ (letters.all fun s => s.cps.all (· < 0x110000)) = true ∧ letters.length = 6 := by decide +kernel
theorem take_nd (k : Nat) : (letters.take k).Nodup := letters_ok.1.sublist (List.take_sublist _ _)
theorem take_gd (k : Nat) : Gd (letters.take k) := fun s hs => List.all_eq_true.mp letters_ok.2.1 s (List.mem_of_mem_take hs)
theorem take_len (k : Nat) : (letters.take k).length ≤ 6 := by
  rw [List.length_take, letters_ok.2.2]
  omega
theorem cut_letters : ∀ k : Nat, k < 7 → ∃ r, slcD (.str "abcdef") none (some (k : Int)) = some r ∧ ∃ s, r.frz = .d (.str s) ∧ biD .tuple (.str s) = some (.d (tl (letters.take k)))
  | 0, _ => ⟨.d (.str ""), rfl, _, rfl, rfl⟩
  | 1, _ => ⟨.d (.str "a"), rfl, _, rfl, rfl⟩
  | 2, _ => ⟨.d (.str "ab"), rfl, _, rfl, rfl⟩
  | 3, _ => ⟨.d (.str "abc"), rfl, _, rfl, rfl⟩
  | 4, _ => ⟨.d (.str "abcd"), rfl, _, rfl, rfl⟩
  | 5, _ => ⟨.d (.str "abcde"), rfl, _, rfl, rfl⟩
  | 6, _ => ⟨.d (.str "abcdef"), rfl, _, rfl, rfl⟩
  | k + 7, h => by omega
/-! comparisons of lists of lots -/
theorem ne_lsts {a b : List L} (ha : ∀ x ∈ a, Gd x) (hb : ∀ x ∈ b, Gd x) (e : a = b) : cmpD .ne (.lst (a.map tl)) (.lst (b.map tl)) = some false := by
  show (eqD _ _).map (!·) = _
  rw [eqD_lst ha hb]
  subst e
  simp
/-- [one for one in some if ..] == [] -/
theorem vx_none {F : FE} {env : En} {i : Nat} {c a : IE} {ls : List L} {p : L → Bool} (hl : i < env.length) (hg : ∀ x ∈ ls, Gd x) (ha : Vx F a env (.lst (ls.map tl))) (hc : ∀ x ∈ ls, Vx F c (env.set i (some (.d (tl x)))) (.bl (p x))) :
    Vx F (.cmp .eq (.lc (.seq a) (.name i) [i] (.some c) (.var i)) (.lst .nil)) env (.bl (decide (ls.filter p = []))) :=
  vx_cmp (x := .lst ((ls.filter p).map tl)) (y := .lst []) (vx_lcf tl ls p hl (ix_seq ha rfl) hc rfl) (vx_lst (xs := []) vxs_nil (by decide)) (eqD_nil fun x hx => hg x (List.mem_filter.mp hx).1)
/-- one != lot and within(one, lot) -/
theorem vx_uw {F : FE} {env : En} {i j : Nat} {x y : L} {a b : IE} {u v : L} (gx : Gd x) (gy : Gd y) (hx : env[i]? = some (some (.d (tl x)))) (hy : env[j]? = some (some (.d (tl y)))) (gu : Gd u) (gv : Gd v) (hu : Vx F a env (tl u)) (hv : Vx F b env (tl v))
    (hF : PF (F 10) [tl u, tl v] (.bl (holds v u))) : Vx F (.and2 (.cmp .ne (.var i) (.var j)) (.call 10 (.v a (.v b .nil)) .nil [])) env (.bl (decide (x ≠ y) && holds v u)) :=
  vx_and (vx_cmp (vx_var hx) (vx_var hy) (ne_tl gx gy)) fun _ => vx_call (zs := [tl u, tl v]) (ax_cons hu (ax_cons hv ax_nil)) ax_nil rfl hF
end K52

set_option Elab.async false
set_option linter.all false
set_option autoImplicit false
set_option maxRecDepth 100000
set_option maxHeartbeats 4000000
/-! k52: a turn of the law. -/
namespace K52
open PySem Tk
abbrev Fb : FE := evN ds 7
/-- the law's slots -/
abbrev E (ns : List Int) (p : Int) (t f e s l u a lo le o m fr du ba : Option Tk.D) : En := [some (.d (.scr ns)), some (.own (pn p)), t.map .d, f.map .d, e.map .d, s.map .d, l.map .d, u.map .d, a.map .d, lo.map .d, le.map .d, o.map .d, m.map .d, fr.map .d, du.map .d, ba.map .d]
theorem nio (x : Option Tk.D) : ∀ c, x.map S.d ≠ some (.io c) := fun c z => by cases x <;> cases z
section
variable {ns : List Int} {p : Int} {t f e s l u a lo le o m fr du ba : Option Tk.D}
theorem st_full : ∃ k p', evS Fb (.asg (.name 3) (.bi .tuple (.slc (.con (.str "abcdef")) .none (.some (.call 6 (.io 1 (.v (.con (.int 7)) (.nil))) (.nil) []))))) (E ns p t f e s l u a lo le o m fr du ba) = .ok .nx (E ns p' t (some (tl (letters.take k))) e s l u a lo le o m fr du ba) := by
  obtain ⟨r, p', h1, _, h3⟩ := draw_ev (n := 6) (env := E ns p t f e s l u a lo le o m fr du ba) (i := 1) (p := p) (m := 7) (a := .con (.int 7)) rfl vx_con
  obtain ⟨h4, h5⟩ := h3 (by decide)
  obtain ⟨k, rfl⟩ : ∃ k : Nat, r = k := ⟨r.toNat, by omega⟩
  obtain ⟨r0, c1, s0, c2, c3⟩ := cut_letters k (by omega)
  have hv : (evE Fb (.call 6 (.io 1 (.v (.con (.int 7)) (.nil))) (.nil) []) (E ns p t f e s l u a lo le o m fr du ba)).val = .ok (.int k) (E ns p' t f e s l u a lo le o m fr du ba) := by
    rw [h1]
    rfl
  have h6 := ev_slcW (a := .con (.str "abcdef")) (x := .str "abcdef") vx_con hv c1
  have h7 : (evE Fb (.slc (.con (.str "abcdef")) .none (.some (.call 6 (.io 1 (.v (.con (.int 7)) (.nil))) (.nil) []))) (E ns p t f e s l u a lo le o m fr du ba)).frz = .ok (.d (.str s0)) (E ns p' t f e s l u a lo le o m fr du ba) := by
    rw [h6]
    show Res.ok r0.frz _ = _
    rw [c2]
  have h8 := ev_biW (f := .tuple) h7 c3
  refine ⟨k, p', (nx_asgW (x := tl (letters.take k)) (env1 := E ns p' t f e s l u a lo le o m fr du ba) (o := f.map .d) ?_ rfl (nio f)).trans rfl⟩
  rw [h8]
  rfl
variable {k : Nat}
theorem st_every : evS Fb (.asg (.name 4) (.call 9 (.v (.var 3) (.nil)) (.nil) [])) (E ns p t (some (tl (letters.take k))) e s l u a lo le o m fr du ba) = .ok .nx (E ns p t (some (tl (letters.take k))) (some (.lst ((lots (letters.take k)).map tl))) s l u a lo le o m fr du ba) :=
  nx_asg (i := 4) (o := e.map .d) (vx_call (zs := [tl (letters.take k)]) (ax_cons (vx_var rfl) ax_nil) ax_nil rfl (pf_lots (n := 6) (take_gd k) (take_len k))) rfl (nio e)
theorem lots_ne (full : L) : lots full ≠ [] := fun h => by
  have := mem_lots.mpr (List.nil_sublist full : Sub full [])
  rw [h] at this
  cases this
theorem picks {A : L → Prop} {ev : List L} (hne : ev ≠ []) : ∀ (items : List Tk.D) (p : Int) (l : Option Tk.D), ∃ (ys : List L) (p' : Int) (l' : Option Tk.D), (∀ y ∈ ys, y ∈ ev) ∧ ys.length = items.length ∧
    lcGo (.name 6) [6] (evIfs Fb .none) (fun en => evE Fb (.call 7 (.io 1 (.v (.var 4) (.nil))) (.nil) []) en) items (E ns p t f (some (.lst (ev.map tl))) s l u a lo le o m fr du ba) = .ok (ys.map tl) (E ns p' t f (some (.lst (ev.map tl))) s l' u a lo le o m fr du ba)
  | [], p, l => ⟨[], p, l, fun y h => by simp at h, rfl, rfl⟩
  | x :: r, p, l => by
    obtain ⟨y, hy, p1, h1⟩ := pick_ev (n := 5) tl ev hne (env := E ns p t f (some (.lst (ev.map tl))) s (some x) u a lo le o m fr du ba) (i := 1) (p := p) (a := .var 4) rfl (vx_var rfl)
    obtain ⟨ys, p', l', h2, h3, h4⟩ := picks (A := A) hne r p1 (some x)
    refine ⟨y :: ys, p', l', ?_, by simp [h3], ?_⟩
    · intro z hz
      rcases List.mem_cons.mp hz with rfl | hz
      · exact hy
      · exact h2 z hz
    · have e0 : bindT (.name 6) x (wipeE (E ns p t f (some (.lst (ev.map tl))) s l u a lo le o m fr du ba) [6]) = some (E ns p t f (some (.lst (ev.map tl))) s (some x) u a lo le o m fr du ba) := rfl
      have h5 : (evE Fb (.call 7 (.io 1 (.v (.var 4) (.nil))) (.nil) []) (E ns p t f (some (.lst (ev.map tl))) s (some x) u a lo le o m fr du ba)).frz = .ok (.d (tl y)) (E ns p1 t f (some (.lst (ev.map tl))) s (some x) u a lo le o m fr du ba) := by
        rw [h1]
        rfl
      simp only [lcGo, e0, ifs_none, Res.bind_ok, if_true, h5, h4, List.map_cons]
theorem rng_len {r : Int} (h : 0 ≤ r ∧ r < 6) : ∃ items, rng 0 r = some items := by
  unfold rng
  have : (r - 0).toNat ≤ sizeLine := Nat.le_trans (by omega : (r - 0).toNat ≤ 448) (Nat.le_of_lt line448)
  rw [if_pos ⟨by omega, this⟩]
  exact ⟨_, rfl⟩
theorem rng_len2 {r : Int} {items : List Tk.D} (h : 0 ≤ r ∧ r < 6) (e : rng 0 r = some items) : items.length ≤ 6 := by
  unfold rng at e
  split at e
  · cases e
    simp
    omega
  · cases e
theorem st_some {full : L} : ∃ (some_ : List L) (p' : Int), (∀ y ∈ some_, Sub full y) ∧ some_.length ≤ 6 ∧ evS Fb (.asg (.name 5) (.lc (.rng1 (.call 6 (.io 1 (.v (.con (.int 6)) (.nil))) (.nil) [])) (.name 6) [6] .none (.call 7 (.io 1 (.v (.var 4) (.nil))) (.nil) []))) (E ns p t f (some (.lst ((lots full).map tl))) s l u a lo le o m fr du ba) =
    .ok .nx (E ns p' t f (some (.lst ((lots full).map tl))) (some (.lst (some_.map tl))) l u a lo le o m fr du ba) := by
  obtain ⟨r, p1, h1, _, h3⟩ := draw_ev (n := 6) (env := E ns p t f (some (.lst ((lots full).map tl))) s l u a lo le o m fr du ba) (i := 1) (p := p) (m := 6) (a := .con (.int 6)) rfl vx_con
  have h4 := h3 (by decide)
  obtain ⟨items, h5⟩ := rng_len h4
  obtain ⟨ys, p', l', h6, h7, h8⟩ := picks (A := fun _ => True) (ns := ns) (t := t) (f := f) (s := s) (u := u) (a := a) (lo := lo) (le := le) (o := o) (m := m) (fr := fr) (du := du) (ba := ba) (lots_ne full) items p1 l
  refine ⟨ys, p', fun y hy => mem_lots.mp (h6 y hy), by rw [h7]; exact rng_len2 h4 h5, ?_⟩
  have hi : evI Fb (.rng1 (.call 6 (.io 1 (.v (.con (.int 6)) (.nil))) (.nil) [])) (E ns p t f (some (.lst ((lots full).map tl))) s l u a lo le o m fr du ba) = .ok items (E ns p1 t f (some (.lst ((lots full).map tl))) s l u a lo le o m fr du ba) := by
    have hv : (evE Fb (.call 6 (.io 1 (.v (.con (.int 6)) (.nil))) (.nil) []) (E ns p t f (some (.lst ((lots full).map tl))) s l u a lo le o m fr du ba)).val = .ok (.int r) (E ns p1 t f (some (.lst ((lots full).map tl))) s l u a lo le o m fr du ba) := by
      rw [h1]
      rfl
    rw [evI, hv, Res.bind_ok]
    show lift (rng 0 r) _ = _
    rw [h5]
    rfl
  have hx : (evE Fb (.lc (.rng1 (.call 6 (.io 1 (.v (.con (.int 6)) (.nil))) (.nil) [])) (.name 6) [6] .none (.call 7 (.io 1 (.v (.var 4) (.nil))) (.nil) [])) (E ns p t f (some (.lst ((lots full).map tl))) s l u a lo le o m fr du ba)).frz = .ok (.d (.lst (ys.map tl))) (E ns p' t f (some (.lst ((lots full).map tl))) s l u a lo le o m fr du ba) := by
    rw [lc_eq, hi, Res.bind_ok, h8, Res.bind_ok]
    cases l <;> rfl
  exact (nx_asgW (i := 5) (o := s.map .d) hx rfl (nio s)).trans rfl
end
end K52

set_option Elab.async false
set_option linter.all false
set_option autoImplicit false
set_option maxRecDepth 100000
set_option maxHeartbeats 4000000
/-! k52: a turn of the law, its second part. -/
namespace K52
open PySem Tk
section
variable {ns : List Int} {p : Int} {t f e s l u a lo le o m fr du ba : Option Tk.D} {full : L} {some_ : List L}
theorem nt {o : Option S} {x : Tk.D} (h : o = some (.d x)) : ∀ c, o ≠ some (.io c) := fun c z => by rw [h] at z; cases z
theorem st_unlike (hg : ∀ x ∈ some_, Gd x) : evS Fb (.asg (.name 7) (.lc (.enum (.var 5)) (.tup [8, 9]) [8, 9] (.some (.cmp .nin (.var 9) (.slc (.var 5) .none (.some (.var 8))))) (.var 9))) (E ns p t f e (some (.lst (some_.map tl))) l u a lo le o m fr du ba) =
    .ok .nx (E ns p t f e (some (.lst (some_.map tl))) l (some (.lst ((dd some_).map tl))) a lo le o m fr du ba) := by
  refine (nx_asg (i := 7) (x := .lst ((dd some_).map tl)) (o := u.map .d) (vx_lce tl some_ (fun k x => !decide (x ∈ some_.take k)) (by decide) (by show 8 < 16; decide) (by show 9 < 16; decide) (vx_var rfl) (fun k x hk => ?_) ?_) rfl (nio u)).trans rfl
  · have hx : x ∈ some_ := List.mem_of_getElem? hk
    have hkl : k ≤ some_.length := Nat.le_of_lt (List.getElem?_eq_some_iff.mp hk).1
    refine vx_cmp (x := tl x) (y := .lst ((some_.take k).map tl)) (vx_var rfl) (vx_slc (x := .lst (some_.map tl)) (r := .own (.lst ((some_.take k).map tl))) (vx_var rfl) ox_none (ox_some (i := (k : Int)) (vx_var rfl)) ?_ rfl) ?_
    · show some (R.own (C.lst (cutD (some_.map tl) none (some (k : Int))))) = _
      rw [cut_take (by rw [List.length_map]; exact hkl), List.map_take]
    · show (inD (tl x) ((some_.take k).map tl)).map (!·) = _
      rw [inD_tl (hg x hx) fun y hy => hg y (List.mem_of_mem_take hy)]
      rfl
  · rw [← dd_enum some_, List.map_map]
    rfl
theorem st_least (hg : ∀ x ∈ some_, Gd x) : evS Fb (.asg (.name 10) (.lc (.seq (.var 7)) (.name 9) [9] (.some (.cmp .eq (.lc (.seq (.var 7)) (.name 11) [11] (.some (.and2 (.cmp .ne (.var 11) (.var 9)) (.call 10 (.v (.var 11) (.v (.var 9) (.nil))) (.nil) []))) (.var 11)) (.lst (.nil)))) (.var 9)))
    (E ns p t f e s l (some (.lst ((dd some_).map tl))) a lo le o m fr du ba) = .ok .nx (E ns p t f e s l (some (.lst ((dd some_).map tl))) a lo (some (.lst ((least some_).map tl))) o m fr du ba) := by
  have gd := gd_dd hg
  refine (nx_asg (i := 10) (x := .lst ((least some_).map tl)) (o := le.map .d) (vx_lcf (i := 9) tl (dd some_) (fun lot => decide (((dd some_).filter fun one => decide (one ≠ lot) && holds lot one) = [])) (by show 9 < 16; decide) (ix_seq (vx_var rfl) rfl) (fun x hx => ?_) ?_) rfl (nio le)).trans rfl
  · exact vx_none (i := 11) (by show 11 < 16; decide) gd (vx_var rfl) fun y hy => vx_uw (gd y hy) (gd x hx) rfl rfl (gd y hy) (gd x hx) (vx_var rfl) (vx_var rfl) (pf_within (n := 6) (gd y hy) (gd x hx))
  · rw [least_eq]
    rfl
theorem st_most (hg : ∀ x ∈ some_, Gd x) : evS Fb (.asg (.name 12) (.lc (.seq (.var 7)) (.name 9) [9] (.some (.cmp .eq (.lc (.seq (.var 7)) (.name 11) [11] (.some (.and2 (.cmp .ne (.var 11) (.var 9)) (.call 10 (.v (.var 9) (.v (.var 11) (.nil))) (.nil) []))) (.var 11)) (.lst (.nil)))) (.var 9)))
    (E ns p t f e s l (some (.lst ((dd some_).map tl))) a lo le o m fr du ba) = .ok .nx (E ns p t f e s l (some (.lst ((dd some_).map tl))) a lo le o (some (.lst ((greatest some_).map tl))) fr du ba) := by
  have gd := gd_dd hg
  refine (nx_asg (i := 12) (x := .lst ((greatest some_).map tl)) (o := m.map .d) (vx_lcf (i := 9) tl (dd some_) (fun lot => decide (((dd some_).filter fun one => decide (one ≠ lot) && holds one lot) = [])) (by show 9 < 16; decide) (ix_seq (vx_var rfl) rfl) (fun x hx => ?_) ?_) rfl (nio m)).trans rfl
  · exact vx_none (i := 11) (by show 11 < 16; decide) gd (vx_var rfl) fun y hy => vx_uw (gd y hy) (gd x hx) rfl rfl (gd x hx) (gd y hy) (vx_var rfl) (vx_var rfl) (pf_within (n := 6) (gd x hx) (gd y hy))
  · rw [greatest_eq]
    rfl
theorem gd_least (hg : ∀ x ∈ some_, Gd x) : ∀ x ∈ least some_, Gd x := fun x hx => hg x (mem_least.mp hx).1
theorem gd_greatest (hg : ∀ x ∈ some_, Gd x) : ∀ x ∈ greatest some_, Gd x := fun x hx => hg x (mem_greatest.mp hx).1
theorem or_ff {F : FE} {env : En} {x y : IE} (hx : Vx F x env (.bl false)) (hy : Vx F y env (.bl false)) : Vx F (.or2 x y) env (.bl false) := vx_or (k := false) (j := false) hx fun _ => hy
theorem if1 (hg : ∀ x ∈ some_, Gd x) (hz : some_.length < sizeLine) : evS Fb (.ife (.or2 (.cmp .ne (.call 3 (.v (.var 5) (.nil)) (.nil) []) (.var 10)) (.or2 (.cmp .ne (.call 2 (.nil) (.v (.var 5) (.nil)) [0]) (.var 12)) (.or2 (.cmp .ne (.call 3 (.nil) (.v (.var 5) (.nil)) [0]) (.var 10)) (.cmp .ne (.call 2 (.v (.var 5) (.nil)) (.nil) []) (.var 12))))) (.cons (.ret (.con (.bl false))) (.nil)) (.nil))
    (E ns p t f e (some (.lst (some_.map tl))) l u a lo (some (.lst ((least some_).map tl))) o (some (.lst ((greatest some_).map tl))) fr du ba) = .ok .nx (E ns p t f e (some (.lst (some_.map tl))) l u a lo (some (.lst ((least some_).map tl))) o (some (.lst ((greatest some_).map tl))) fr du ba) := by
  have P3 := pf_least (n := 5) hg hz
  have P2 := pf_greatest (n := 5) hg hz
  have n3 := ne_lsts (gd_least hg) (gd_least hg) rfl
  have n2 := ne_lsts (gd_greatest hg) (gd_greatest hg) rfl
  exact nx_no (or_ff (vx_cmp (vx_call (zs := [.lst (some_.map tl)]) (ax_cons (vx_var rfl) ax_nil) ax_nil rfl P3) (vx_var rfl) n3) (or_ff (vx_cmp (vx_call (zs := [.lst (some_.map tl)]) ax_nil (ax_cons (vx_var rfl) ax_nil) rfl P2) (vx_var rfl) n2)
    (or_ff (vx_cmp (vx_call (zs := [.lst (some_.map tl)]) ax_nil (ax_cons (vx_var rfl) ax_nil) rfl P3) (vx_var rfl) n3) (vx_cmp (vx_call (zs := [.lst (some_.map tl)]) (ax_cons (vx_var rfl) ax_nil) ax_nil rfl P2) (vx_var rfl) n2))))
theorem gd_lots (gf : Gd full) : ∀ x ∈ lots full, Gd x := fun x hx => gd_sub gf (mem_lots.mp hx)
theorem st_free (gf : Gd full) (hg : ∀ x ∈ some_, Gd x) : evS Fb (.asg (.name 13) (.lc (.seq (.var 4)) (.name 9) [9] (.some (.cmp .eq (.lc (.seq (.var 5)) (.name 11) [11] (.some (.call 10 (.v (.var 11) (.v (.var 9) (.nil))) (.nil) [])) (.var 11)) (.lst (.nil)))) (.var 9)))
    (E ns p t f (some (.lst ((lots full).map tl))) (some (.lst (some_.map tl))) l u a lo le o m fr du ba) = .ok .nx (E ns p t f (some (.lst ((lots full).map tl))) (some (.lst (some_.map tl))) l u a lo le o m (some (.lst ((freeOf (lots full) some_).map tl))) du ba) := by
  have gl := gd_lots gf
  refine (nx_asg (i := 13) (x := .lst ((freeOf (lots full) some_).map tl)) (o := fr.map .d) (vx_lcf (i := 9) tl (lots full) (fun lot => decide ((some_.filter fun one => holds lot one) = [])) (by show 9 < 16; decide) (ix_seq (vx_var rfl) rfl) (fun x hx => ?_) rfl) rfl (nio fr)).trans rfl
  exact vx_none (i := 11) (by show 11 < 16; decide) hg (vx_var rfl) fun y hy => vx_call (zs := [tl y, tl x]) (ax_cons (vx_var rfl) (ax_cons (vx_var rfl) ax_nil)) ax_nil rfl (pf_within (n := 6) (hg y hy) (gl x hx))
theorem topOf_anti (ls : List L) : ∀ x ∈ topOf ls, ∀ y ∈ topOf ls, holds y x = true → y = x := fun x hx y hy h => (mem_topOf.mp hx).2 y (mem_topOf.mp hy).1 h
theorem lowOf_anti (ls : List L) : ∀ x ∈ lowOf ls, ∀ y ∈ lowOf ls, holds y x = true → y = x := fun x hx y hy h => ((mem_lowOf.mp hy).2 x (mem_lowOf.mp hx).1 h).symm
/-- the due ones, sorted -/
def dueOf (full : L) (some_ : List L) : List L := sl (topOf (freeOf (lots full) some_))
theorem st_due (nd : full.Nodup) (gf : Gd full) : evS Fb (.asg (.name 14) (.bi .sorted (.lc (.seq (.var 13)) (.name 9) [9] (.some (.cmp .eq (.lc (.seq (.var 13)) (.name 11) [11] (.some (.and2 (.cmp .ne (.var 11) (.var 9)) (.call 10 (.v (.var 9) (.v (.var 11) (.nil))) (.nil) []))) (.var 11)) (.lst (.nil)))) (.var 9))))
    (E ns p t f e s l u a lo le o m (some (.lst ((freeOf (lots full) some_).map tl))) du ba) = .ok .nx (E ns p t f e s l u a lo le o m (some (.lst ((freeOf (lots full) some_).map tl))) (some (.lst ((dueOf full some_).map tl))) ba) := by
  have gfr : ∀ x ∈ freeOf (lots full) some_, Gd x := fun x hx => gd_lots gf x (List.mem_filter.mp hx).1
  refine (nx_asg (i := 14) (x := .lst ((dueOf full some_).map tl)) (o := du.map .d) (vx_bi (x := .lst ((topOf (freeOf (lots full) some_)).map tl)) (r := .own (.lst (srt (topOf (freeOf (lots full) some_))))) (vx_lcf (i := 9) tl (freeOf (lots full) some_) (fun lot => decide (((freeOf (lots full) some_).filter fun one => decide (one ≠ lot) && holds one lot) = [])) (by show 9 < 16; decide) (ix_seq (vx_var rfl) rfl) (fun x hx => ?_) rfl)
    (sort_tls (fun x hx => gfr x (mem_topOf.mp hx).1) (((lots_nodup nd).filter _).filter _) (topOf_anti _)) (by rw [srt_sl]; rfl)) rfl (nio du)).trans rfl
  exact vx_none (i := 11) (by show 11 < 16; decide) gfr (vx_var rfl) fun y hy => vx_uw (gfr y hy) (gfr x hx) rfl rfl (gfr x hx) (gfr y hy) (vx_var rfl) (vx_var rfl) (pf_within (n := 6) (gfr x hx) (gfr y hy))
theorem gd_due (gf : Gd full) : ∀ x ∈ dueOf full some_, Gd x := fun x hx => gd_lots gf x (List.mem_filter.mp (mem_topOf.mp ((sl_perm _).mem_iff.mp hx)).1).1
/-- a list of duals, sorted -/
theorem vx_sorted {F : FE} {env : En} {x : IE} {ls : List L} (hx : Vx F x env (.lst (ls.map tl))) (hg : ∀ a ∈ ls, Gd a) (hn : ls.Nodup) (an : ∀ x ∈ ls, ∀ y ∈ ls, holds y x = true → y = x) {d : List L} (pm : ls.Perm d) : Vx F (.bi .sorted x) env (.lst ((sl d).map tl)) :=
  vx_bi hx (sort_tls hg hn an) (by rw [srt_perm pm, srt_sl]; rfl)
theorem ne_int (i : Int) : cmpD .ne (.int i) (.int i) = some false := by simp [cmpD, eqD, Tk.D.shp, Tk.D.eqv]
theorem if2 (nd : full.Nodup) (gf : Gd full) (h6 : full.length ≤ 6) (hs : ∀ x ∈ some_, Sub full x) : evS Fb (.ife (.or2 (.cmp .ne (.bi .sorted (.call 4 (.v (.var 3) (.v (.var 5) (.nil))) (.nil) [])) (.var 14)) (.or2 (.cmp .ne (.bi .sorted (.call 4 (.nil) (.v (.var 10) (.v (.var 3) (.nil))) [1, 0])) (.var 14)) (.cmp .ne (.bi .len (.call 4 (.v (.var 3) (.v (.var 5) (.nil))) (.nil) [])) (.bi .len (.var 14))))) (.cons (.ret (.con (.bl false))) (.nil)) (.nil))
    (E ns p t (some (tl full)) e (some (.lst (some_.map tl))) l u a lo (some (.lst ((least some_).map tl))) o m fr (some (.lst ((dueOf full some_).map tl))) ba) = .ok .nx (E ns p t (some (tl full)) e (some (.lst (some_.map tl))) l u a lo (some (.lst ((least some_).map tl))) o m fr (some (.lst ((dueOf full some_).map tl))) ba) := by
  have D1 := dual_ok nd some_
  have D2 := dual_ok nd (least some_)
  have p1 := due_perm nd D1
  have p2 := dual_least nd hs
  have hs2 : ∀ x ∈ least some_, Sub full x := fun x hx => hs x (mem_least.mp hx).1
  have c1 : Vx Fb (.call 4 (.v (.var 3) (.v (.var 5) (.nil))) (.nil) []) (E ns p t (some (tl full)) e (some (.lst (some_.map tl))) l u a lo (some (.lst ((least some_).map tl))) o m fr (some (.lst ((dueOf full some_).map tl))) ba) (.lst ((dual full some_).map tl)) :=
    vx_call (zs := [tl full, .lst (some_.map tl)]) (ax_cons (vx_var rfl) (ax_cons (vx_var rfl) ax_nil)) ax_nil rfl (pf_dual (n := 4) nd gf h6 hs)
  have c2 : Vx Fb (.call 4 (.nil) (.v (.var 10) (.v (.var 3) (.nil))) [1, 0]) (E ns p t (some (tl full)) e (some (.lst (some_.map tl))) l u a lo (some (.lst ((least some_).map tl))) o m fr (some (.lst ((dueOf full some_).map tl))) ba) (.lst ((dual full (least some_)).map tl)) :=
    vx_call (zs := [tl full, .lst ((least some_).map tl)]) ax_nil (ax_cons (vx_var rfl) (ax_cons (vx_var rfl) ax_nil)) rfl (pf_dual (n := 4) nd gf h6 hs2)
  have g1 : ∀ x ∈ dual full some_, Gd x := fun x hx => gd_sub gf (D1.sub x hx)
  have g2 : ∀ x ∈ dual full (least some_), Gd x := fun x hx => gd_sub gf (D2.sub x hx)
  have v14 : Vx Fb (.var 14) (E ns p t (some (tl full)) e (some (.lst (some_.map tl))) l u a lo (some (.lst ((least some_).map tl))) o m fr (some (.lst ((dueOf full some_).map tl))) ba) (.lst ((dueOf full some_).map tl)) := vx_var rfl
  refine nx_no (or_ff (vx_cmp (vx_sorted c1 g1 D1.nd D1.anti p1) v14 (ne_lsts (gd_due gf) (gd_due gf) rfl)) (or_ff (vx_cmp (vx_sorted c2 g2 D2.nd D2.anti p2) v14 (ne_lsts (gd_due gf) (gd_due gf) rfl))
    (vx_cmp (x := .int ((dual full some_).length : Nat)) (y := .int ((dueOf full some_).length : Nat)) (vx_bi c1 (r := .d (.int ((dual full some_).length : Nat))) (by show some (R.d (.int (((dual full some_).map tl).length : Nat))) = _; rw [List.length_map]) rfl) (vx_bi v14 (r := .d (.int ((dueOf full some_).length : Nat))) (by show some (R.d (.int (((dueOf full some_).map tl).length : Nat))) = _; rw [List.length_map]) rfl) ?_)))
  have el : (dual full some_).length = (dueOf full some_).length := (p1.trans (sl_perm _).symm).length_eq
  rw [el]
  exact ne_int _
theorem st_back (gf : Gd full) : evS Fb (.asg (.name 15) (.lc (.seq (.var 4)) (.name 9) [9] (.some (.cmp .eq (.lc (.seq (.var 14)) (.name 11) [11] (.some (.call 10 (.v (.var 9) (.v (.var 11) (.nil))) (.nil) [])) (.var 11)) (.lst (.nil)))) (.var 9)))
    (E ns p t f (some (.lst ((lots full).map tl))) s l u a lo le o m fr (some (.lst ((dueOf full some_).map tl))) ba) = .ok .nx (E ns p t f (some (.lst ((lots full).map tl))) s l u a lo le o m fr (some (.lst ((dueOf full some_).map tl))) (some (.lst ((backOf (lots full) (dueOf full some_)).map tl)))) := by
  have gl := gd_lots gf
  have gd := gd_due (some_ := some_) gf
  refine (nx_asg (i := 15) (x := .lst ((backOf (lots full) (dueOf full some_)).map tl)) (o := ba.map .d) (vx_lcf (i := 9) tl (lots full) (fun lot => decide (((dueOf full some_).filter fun one => holds one lot) = [])) (by show 9 < 16; decide) (ix_seq (vx_var rfl) rfl) (fun x hx => ?_) rfl) rfl (nio ba)).trans rfl
  exact vx_none (i := 11) (by show 11 < 16; decide) gd (vx_var rfl) fun y hy => vx_call (zs := [tl x, tl y]) (ax_cons (vx_var rfl) (ax_cons (vx_var rfl) ax_nil)) ax_nil rfl (pf_within (n := 6) (gl x hx) (gd y hy))
theorem least_anti (ls : List L) : ∀ x ∈ least ls, ∀ y ∈ least ls, holds y x = true → y = x := fun x hx y hy h => ((mem_least.mp hy).2 x (mem_least.mp hx).1 h).symm
theorem if3 (nd : full.Nodup) (gf : Gd full) (hs : ∀ x ∈ some_, Sub full x) : evS Fb (.ife (.cmp .ne (.bi .sorted (.lc (.seq (.var 15)) (.name 9) [9] (.some (.cmp .eq (.lc (.seq (.var 15)) (.name 11) [11] (.some (.and2 (.cmp .ne (.var 11) (.var 9)) (.call 10 (.v (.var 11) (.v (.var 9) (.nil))) (.nil) []))) (.var 11)) (.lst (.nil)))) (.var 9))) (.bi .sorted (.var 10))) (.cons (.ret (.con (.bl false))) (.nil)) (.nil))
    (E ns p t f e s l u a lo (some (.lst ((least some_).map tl))) o m fr du (some (.lst ((backOf (lots full) (dueOf full some_)).map tl)))) = .ok .nx (E ns p t f e s l u a lo (some (.lst ((least some_).map tl))) o m fr du (some (.lst ((backOf (lots full) (dueOf full some_)).map tl)))) := by
  have gb : ∀ x ∈ backOf (lots full) (dueOf full some_), Gd x := fun x hx => gd_lots gf x (List.mem_filter.mp hx).1
  have gl : ∀ x ∈ least some_, Gd x := fun x hx => gd_sub gf (hs x (mem_least.mp hx).1)
  have pb := back_perm nd hs (sl_perm (topOf (freeOf (lots full) some_)))
  refine nx_no (vx_cmp (vx_sorted (vx_lcf (i := 9) tl (backOf (lots full) (dueOf full some_)) (fun lot => decide (((backOf (lots full) (dueOf full some_)).filter fun one => decide (one ≠ lot) && holds lot one) = [])) (by show 9 < 16; decide) (ix_seq (vx_var rfl) rfl) (fun x hx => ?_) rfl)
    (fun x hx => gb x (List.mem_filter.mp hx).1) (((lots_nodup nd).filter _).filter _) (lowOf_anti _) pb) (vx_sorted (vx_var rfl) gl (least_nodup _) (least_anti _) (List.Perm.refl _)) (ne_lsts (fun x hx => gl x ((sl_perm _).mem_iff.mp hx)) (fun x hx => gl x ((sl_perm _).mem_iff.mp hx)) rfl))
  exact vx_none (i := 11) (by show 11 < 16; decide) gb (vx_var rfl) fun y hy => vx_uw (gb y hy) (gb x hx) rfl rfl (gb y hy) (gb x hx) (vx_var rfl) (vx_var rfl) (pf_within (n := 6) (gb y hy) (gb x hx))
end
end K52

set_option Elab.async false
set_option linter.all false
set_option autoImplicit false
set_option maxRecDepth 100000
set_option maxHeartbeats 4000000
/-! k52: the law. -/
namespace K52
open PySem Tk
section
variable {ns : List Int} {p : Int} {t f e s l u a lo le o m fr du ba : Option Tk.D} {full : L} {some_ : List L}
theorem st_lot (gf : Gd full) (h6 : full.length ≤ 6) : ∃ (lot : L) (p' : Int), Gd lot ∧ evS Fb (.asg (.name 9) (.bi .tuple (.call 8 (.io 1 (.v (.bi .list (.call 7 (.io 1 (.v (.var 4) (.nil))) (.nil) [])) (.nil))) (.nil) []))) (E ns p t f (some (.lst ((lots full).map tl))) s l u a lo le o m fr du ba) =
    .ok .nx (E ns p' t f (some (.lst ((lots full).map tl))) s l u a (some (tl lot)) le o m fr du ba) := by
  obtain ⟨x, hx, p1, h1⟩ := pick_ev (n := 5) tl (lots full) (lots_ne full) (env := E ns p t f (some (.lst ((lots full).map tl))) s l u a lo le o m fr du ba) (i := 1) (p := p) (a := .var 4) rfl (vx_var rfl)
  have hsub := mem_lots.mp hx
  have gx : Gd x := gd_sub gf hsub
  obtain ⟨b, p2, h2, h3⟩ := mixed_ok (n := 5) gx (Nat.le_trans hsub.length_le h6) p1
  have gb : Gd b := fun s hs => gx s (h2 s hs)
  refine ⟨b, p2, gb, ?_⟩
  have e1 : (evE Fb (.call 7 (.io 1 (.v (.var 4) (.nil))) (.nil) []) (E ns p t f (some (.lst ((lots full).map tl))) s l u a lo le o m fr du ba)).frz = .ok (.d (tl x)) (E ns p1 t f (some (.lst ((lots full).map tl))) s l u a lo le o m fr du ba) := by
    rw [h1]
    rfl
  have e2 := ev_biW (f := .list) e1 (r := .own (.lst (x.map .str))) rfl
  have e3 : evAs Fb (.v (.bi .list (.call 7 (.io 1 (.v (.var 4) (.nil))) (.nil) [])) (.nil)) (E ns p t f (some (.lst ((lots full).map tl))) s l u a lo le o m fr du ba) = .ok ([Tk.D.lst (x.map .str)].map Arg.d) (E ns p1 t f (some (.lst ((lots full).map tl))) s l u a lo le o m fr du ba) := by
    rw [evAs, e2]
    rfl
  have e4 := call_ioW (F := Fb) (n := 8) (i := 1) (c := pn p1) (c' := pn p2) (env := E ns p t f (some (.lst ((lots full).map tl))) s l u a lo le o m fr du ba) rfl e3 rfl h3 (.inr ⟨_, rfl⟩)
  have e5 : (evE Fb (.call 8 (.io 1 (.v (.bi .list (.call 7 (.io 1 (.v (.var 4) (.nil))) (.nil) [])) (.nil))) (.nil) []) (E ns p t f (some (.lst ((lots full).map tl))) s l u a lo le o m fr du ba)).frz = .ok (.d (.lst (b.map .str))) (E ns p2 t f (some (.lst ((lots full).map tl))) s l u a lo le o m fr du ba) := by
    rw [e4]
    rfl
  have e6 := ev_biW (f := .tuple) e5 (r := .d (tl b)) rfl
  refine (nx_asgW (i := 9) (x := tl b) (env1 := E ns p2 t f (some (.lst ((lots full).map tl))) s l u a lo le o m fr du ba) (o := lo.map .d) ?_ rfl (nio lo)).trans rfl
  rw [e6]
  rfl
theorem if4 {lot : L} (gf : Gd full) (gl : Gd lot) : evS Fb (.ife (.or2 (.cmp .ne (.call 0 (.v (.var 3) (.v (.var 9) (.nil))) (.nil) []) (.bi .tuple (.lc (.seq (.var 3)) (.name 11) [11] (.some (.cmp .inn (.var 11) (.var 9))) (.var 11)))) (.cmp .ne (.call 0 (.nil) (.v (.bi .list (.var 9)) (.v (.bi .list (.var 3)) (.nil))) [1, 0]) (.call 0 (.v (.var 3) (.v (.var 9) (.nil))) (.nil) []))) (.cons (.ret (.con (.bl false))) (.nil)) (.nil))
    (E ns p t (some (tl full)) e s l u a (some (tl lot)) le o m fr du ba) = .ok .nx (E ns p t (some (tl full)) e s l u a (some (tl lot)) le o m fr du ba) := by
  have go : Gd (full.filter fun s => decide (s ∈ lot)) := fun s hs => gf s (List.mem_filter.mp hs).1
  have P := pf_ordered (n := 6) (x := tl full) (y := tl lot) (.inl rfl) (.inl rfl) gf gl
  have Q := pf_ordered (n := 6) (x := .lst (full.map .str)) (y := .lst (lot.map .str)) (.inr rfl) (.inr rfl) gf gl
  have c1 : Vx Fb (.call 0 (.v (.var 3) (.v (.var 9) (.nil))) (.nil) []) (E ns p t (some (tl full)) e s l u a (some (tl lot)) le o m fr du ba) (tl (full.filter fun s => decide (s ∈ lot))) := vx_call (zs := [tl full, tl lot]) (ax_cons (vx_var rfl) (ax_cons (vx_var rfl) ax_nil)) ax_nil rfl P
  have c2 : Vx Fb (.call 0 (.nil) (.v (.bi .list (.var 9)) (.v (.bi .list (.var 3)) (.nil))) [1, 0]) (E ns p t (some (tl full)) e s l u a (some (tl lot)) le o m fr du ba) (tl (full.filter fun s => decide (s ∈ lot))) :=
    vx_call (zs := [.lst (full.map .str), .lst (lot.map .str)]) ax_nil (ax_cons (vx_bi (x := tl lot) (r := .own (.lst (lot.map .str))) (vx_var rfl) rfl rfl) (ax_cons (vx_bi (x := tl full) (r := .own (.lst (full.map .str))) (vx_var rfl) rfl rfl) ax_nil)) rfl Q
  have nn : cmpD .ne (tl (full.filter fun s => decide (s ∈ lot))) (tl (full.filter fun s => decide (s ∈ lot))) = some false := by
    rw [ne_tl go go]
    simp
  refine nx_no (or_ff (vx_cmp c1 (vx_bi (x := .lst ((full.filter fun s => decide (s ∈ lot)).map .str)) (r := .d (tl (full.filter fun s => decide (s ∈ lot)))) (vx_lcf (i := 11) Tk.D.str full (fun s => decide (s ∈ lot)) (by show 11 < 16; decide) (ix_seq (vx_var rfl) rfl) (fun s hs => ?_) rfl) rfl rfl) nn) (vx_cmp c2 c1 nn))
  exact vx_cmp (x := .str s) (y := tl lot) (vx_var rfl) (vx_var rfl) (inD_str (gf s hs) gl)
/-- the body of the law's loop -/
def turnB : ISs := match b11 with
  | .cons _ (.cons (.for_ _ _ b) _) => b
  | _ => .nil
theorem turn_ok : ∃ p' t' f' e' s' l' u' a' lo' le' o' m' fr' du' ba', evSs Fb turnB (E ns p t f e s l u a lo le o m fr du ba) = .ok .nx (E ns p' t' f' e' s' l' u' a' lo' le' o' m' fr' du' ba') := by
  obtain ⟨k, p1, h3⟩ := st_full (ns := ns) (p := p) (t := t) (f := f) (e := e) (s := s) (l := l) (u := u) (a := a) (lo := lo) (le := le) (o := o) (m := m) (fr := fr) (du := du) (ba := ba)
  have nd := take_nd k
  have gf := take_gd k
  have h6 := take_len k
  obtain ⟨some_, p2, hs, hz, h5⟩ := st_some (ns := ns) (p := p1) (t := t) (f := some (tl (letters.take k))) (s := s) (l := l) (u := u) (a := a) (lo := lo) (le := le) (o := o) (m := m) (fr := fr) (du := du) (ba := ba) (full := letters.take k)
  have hg : ∀ x ∈ some_, Gd x := fun x hx => gd_sub gf (hs x hx)
  have hz2 : some_.length < sizeLine := Nat.lt_of_le_of_lt (by omega : some_.length ≤ 448) line448
  obtain ⟨lot, p3, gl, h9⟩ := st_lot (ns := ns) (p := p2) (t := t) (f := some (tl (letters.take k))) (s := some (.lst (some_.map tl))) (l := l) (u := some (.lst ((dd some_).map tl))) (a := a) (lo := lo) (le := some (.lst ((least some_).map tl))) (o := o) (m := some (.lst ((greatest some_).map tl)))
    (fr := some (.lst ((freeOf (lots (letters.take k)) some_).map tl))) (du := some (.lst ((dueOf (letters.take k) some_).map tl))) (ba := some (.lst ((backOf (lots (letters.take k)) (dueOf (letters.take k) some_)).map tl))) gf h6
  exact ⟨_, _, _, _, _, _, _, _, _, _, _, _, _, _, _, nx_then h3 (nx_then st_every (nx_then h5 (nx_then (st_unlike hg) (nx_then (st_least hg) (nx_then (st_most hg) (nx_then (if1 hg hz2) (nx_then (st_free gf hg) (nx_then (st_due nd gf) (nx_then (if2 nd gf h6 hs) (nx_then (st_back gf) (nx_then (if3 nd gf hs) (nx_then h9 (nx_then (if4 gf gl) nx_nil)))))))))))))⟩
end
theorem law_ok (ns : List Int) (_ : ns.length ≤ 63) : ∃ outs, evN ds 8 11 [.d (.scr ns)] = .ok (.d (.bl true)) outs := by
  have e : evN ds 8 11 = runF Fb 1 16 b11 := rfl
  rw [e]
  obtain ⟨p, h1⟩ := pen_ok (n := 6) ns
  have a1 : evS Fb (.own 1 (.call 5 (.v (.var 0) (.nil)) (.nil) [])) [some (.d (.scr ns)), none, none, none, none, none, none, none, none, none, none, none, none, none, none, none] = .ok .nx (E ns p none none none none none none none none none none none none none none) := by
    have q : evE Fb (.call 5 (.v (.var 0) (.nil)) (.nil) []) [some (.d (.scr ns)), none, none, none, none, none, none, none, none, none, none, none, none, none, none, none] = .ok (.own (pn p)) [some (.d (.scr ns)), none, none, none, none, none, none, none, none, none, none, none, none, none, none, none] := by
      have a0 : evAs Fb (.v (.var 0) .nil) [some (.d (.scr ns)), none, none, none, none, none, none, none, none, none, none, none, none, none, none, none] = .ok ([Tk.D.scr ns].map Arg.d) _ := ax_cons (vx_var rfl) ax_nil
      have a2 : ∀ en : En, evAs Fb .nil en = .ok [] en := fun en => by simp only [evAs]
      rw [evE, a0, Res.bind_ok, a2, Res.bind_ok]
      show callR (evN ds 7 5) [.d (.scr ns)] _ = _
      unfold callR
      show (if (refsOf [Arg.d (.scr ns)]).Nodup then callE [Arg.d (.scr ns)] _ (evN ds 7 5 [.d (.scr ns)]) else .stuck) = _
      rw [if_pos (show (refsOf [Arg.d (.scr ns)]).Nodup from List.nodup_nil), show evN ds 7 5 [S.d (.scr ns)] = .ok (.own (pn p)) [] from h1]
      rfl
    rw [evS, q, Res.bind_ok]
    rfl
  obtain ⟨en', h2, h3⟩ := nx_for (F := Fb) (tg := .name 2) (b := turnB) (it := .rng1 (.con (.int 8))) (env := E ns p none none none none none none none none none none none none none none) (items := (List.range 8).map fun k => .int (0 + (k : Nat)))
    (fun _ en => ∃ p t f e s l u a lo le o m fr du ba, en = E ns p t f e s l u a lo le o m fr du ba) (by
      have hv : (evE Fb (.con (.int 8)) (E ns p none none none none none none none none none none none none none none)).val = .ok (.int 8) _ := vx_val vx_con
      show evI _ _ _ = _
      rw [evI, hv, Res.bind_ok]
      rfl) ⟨p, none, none, none, none, none, none, none, none, none, none, none, none, none, none, rfl⟩ (by
      rintro x r en ⟨p, t, f, e, s, l, u, a, lo, le, o, m, fr, du, ba, rfl⟩
      obtain ⟨p', t', f', e', s', l', u', a', lo', le', o', m', fr', du', ba', h⟩ := turn_ok (ns := ns) (p := p) (t := some x) (f := f) (e := e) (s := s) (l := l) (u := u) (a := a) (lo := lo) (le := le) (o := o) (m := m) (fr := fr) (du := du) (ba := ba)
      exact ⟨E ns p (some x) f e s l u a lo le o m fr du ba, _, by cases t <;> rfl, h, p', t', f', e', s', l', u', a', lo', le', o', m', fr', du', ba', rfl⟩)
  obtain ⟨p, t, f, e, s, l, u, a, lo, le, o, m, fr, du, ba, rfl⟩ := h3
  have all : evSs Fb b11 [some (.d (.scr ns)), none, none, none, none, none, none, none, none, none, none, none, none, none, none, none] = .ok (.ret (.d (.bl true))) (E ns p t f e s l u a lo le o m fr du ba) :=
    evs_then (fl := .nx) a1 (evs_then (fl := .nx) h2 (evs_ret (by simp only [evE])))
  exact ⟨_, runF_d (np := 1) (ns := 16) (args := [.d (.scr ns)]) rfl all⟩
end K52

set_option Elab.async false
set_option linter.all false
set_option maxRecDepth 100000
set_option maxHeartbeats 4000000
namespace K52
open PySem Tk
theorem bd0 : BindOk d0 (top 1) where
  pos := fun _ _ _ _ _ _ us hl => match us, hl with | [_, _], _ => rfl
  kw := fun q hq => by
    unfold d0 at hq
    simp only [List.mem_cons, List.not_mem_nil, or_false] at hq
    rcases hq with rfl
    · exact fun _ _ _ _ _ _ us ws h1 h2 => match us, ws, h1, h2 with | [], [_, _], _, _ => rfl
theorem bd1 : BindOk d1 (top 2) where
  pos := fun _ _ _ _ _ _ us hl => match us, hl with | [_, _], _ => rfl
  kw := fun q hq => nomatch hq
theorem bd2 : BindOk d2 (top 3) where
  pos := fun _ _ _ _ _ _ us hl => match us, hl with | [_], _ => rfl
  kw := fun q hq => by
    unfold d2 at hq
    simp only [List.mem_cons, List.not_mem_nil, or_false] at hq
    rcases hq with rfl
    · exact fun _ _ _ _ _ _ us ws h1 h2 => match us, ws, h1, h2 with | [], [_], _, _ => rfl
theorem bd3 : BindOk d3 (top 4) where
  pos := fun _ _ _ _ _ _ us hl => match us, hl with | [_], _ => rfl
  kw := fun q hq => by
    unfold d3 at hq
    simp only [List.mem_cons, List.not_mem_nil, or_false] at hq
    rcases hq with rfl
    · exact fun _ _ _ _ _ _ us ws h1 h2 => match us, ws, h1, h2 with | [], [_], _, _ => rfl
theorem bd4 : BindOk d4 (top 5) where
  pos := fun _ _ _ _ _ _ us hl => match us, hl with | [_, _], _ => rfl
  kw := fun q hq => by
    unfold d4 at hq
    simp only [List.mem_cons, List.not_mem_nil, or_false] at hq
    rcases hq with rfl
    · exact fun _ _ _ _ _ _ us ws h1 h2 => match us, ws, h1, h2 with | [], [_, _], _, _ => rfl
theorem bd5 : BindOk d5 (top 7) where
  pos := fun _ _ _ _ _ _ us hl => match us, hl with | [_], _ => rfl
  kw := fun q hq => nomatch hq
theorem bd6 : BindOk d6 (top 8) where
  pos := fun _ _ _ _ _ _ us hl => match us, hl with | [_, _], _ => rfl
  kw := fun q hq => nomatch hq
theorem bd7 : BindOk d7 (top 9) where
  pos := fun _ _ _ _ _ _ us hl => match us, hl with | [_, _], _ => rfl
  kw := fun q hq => nomatch hq
theorem bd8 : BindOk d8 (top 10) where
  pos := fun _ _ _ _ _ _ us hl => match us, hl with | [_, _], _ => rfl
  kw := fun q hq => nomatch hq
theorem bd9 : BindOk d9 (top 11) where
  pos := fun _ _ _ _ _ _ us hl => match us, hl with | [_], _ => rfl
  kw := fun q hq => nomatch hq
theorem bd10 : BindOk d10 (top 12) where
  pos := fun _ _ _ _ _ _ us hl => match us, hl with | [_, _], _ => rfl
  kw := fun q hq => nomatch hq
theorem bd11 : BindOk d11 (top 13) where
  pos := fun _ _ _ _ _ _ us hl => match us, hl with | [_], _ => rfl
  kw := fun q hq => nomatch hq
end K52
open PySem PySem.W PyProof.Rows in
set_option maxRecDepth 100000 in
set_option maxHeartbeats 0 in
theorem PySem.Challenge.cw_talkbook_k52_lots_beside_one_another_holds : PySem.Challenge.rw_talkbook_k52_lots_beside_one_another.Holds := by
  w_on; o_law; k_head; (case hw => w_witness2)
  k_fill
  refine Tk.walk (n := 8) (i := 11) (ds := K52.ds) (dl := K52.d11) rfl rfl ⟨rfl, by decide, by decide⟩ (fun w h Y => PySem.W.kIn_of Y) rfl rfl rfl K52.law_ok ?F
  case F =>
    intro w mg h KX G
    refine ⟨Tk.bl_none KX G ?z1 ?z2 ?z3 ?z4 ?z5 ?z6 ?z7 ?z8 ?z9 ?z10 ?z11, Tk.ats_cons ?m0 KX G K52.c0 K52.bd0 (Tk.ats_cons ?m1 KX G K52.c1 K52.bd1 (Tk.ats_cons ?m2 KX G K52.c2 K52.bd2 (Tk.ats_cons ?m3 KX G K52.c3 K52.bd3 (Tk.ats_cons ?m4 KX G K52.c4 K52.bd4 (Tk.ats_cons ?m5 KX G K52.c5 K52.bd5 (Tk.ats_cons ?m6 KX G K52.c6 K52.bd6 (Tk.ats_cons ?m7 KX G K52.c7 K52.bd7 (Tk.ats_cons ?m8 KX G K52.c8 K52.bd8 (Tk.ats_cons ?m9 KX G K52.c9 K52.bd9 (Tk.ats_cons ?m10 KX G K52.c10 K52.bd10 (Tk.ats_cons ?m11 KX G K52.c11 K52.bd11 (Tk.Ats.nil))))))))))))⟩
    (case z1 => k_is)
    (case z2 => k_is)
    (case z3 => k_is)
    (case z4 => k_is)
    (case z5 => k_is)
    (case z6 => k_is)
    (case z7 => k_is)
    (case z8 => k_is)
    (case z9 => k_is)
    (case z10 => k_is)
    (case z11 => k_is)
    (case m0 => (show Tk.Fct _ ("ordered" : Str) (K52.top 1)); (refine' Tk.fct ?a ?l ?c ?k); (case a => k_is); (case l => k_is); (case c => k_is); (case k => k_is))
    (case m1 => (show Tk.Fct _ ("has_all" : Str) (K52.top 2)); (refine' Tk.fct ?a ?l ?c ?k); (case a => k_is); (case l => k_is); (case c => k_is); (case k => k_is))
    (case m2 => (show Tk.Fct _ ("greatest_of" : Str) (K52.top 3)); (refine' Tk.fct ?a ?l ?c ?k); (case a => k_is); (case l => k_is); (case c => k_is); (case k => k_is))
    (case m3 => (show Tk.Fct _ ("least_of" : Str) (K52.top 4)); (refine' Tk.fct ?a ?l ?c ?k); (case a => k_is); (case l => k_is); (case c => k_is); (case k => k_is))
    (case m4 => (show Tk.Fct _ ("dual_of" : Str) (K52.top 5)); (refine' Tk.fct ?a ?l ?c ?k); (case a => k_is); (case l => k_is); (case c => k_is); (case k => k_is))
    (case m5 => (show Tk.Fct _ ("_law_pen" : Str) (K52.top 7)); (refine' Tk.fct ?a ?l ?c ?k); (case a => k_is); (case l => k_is); (case c => k_is); (case k => k_is))
    (case m6 => (show Tk.Fct _ ("_law_draw" : Str) (K52.top 8)); (refine' Tk.fct ?a ?l ?c ?k); (case a => k_is); (case l => k_is); (case c => k_is); (case k => k_is))
    (case m7 => (show Tk.Fct _ ("_law_pick" : Str) (K52.top 9)); (refine' Tk.fct ?a ?l ?c ?k); (case a => k_is); (case l => k_is); (case c => k_is); (case k => k_is))
    (case m8 => (show Tk.Fct _ ("_law_mixed" : Str) (K52.top 10)); (refine' Tk.fct ?a ?l ?c ?k); (case a => k_is); (case l => k_is); (case c => k_is); (case k => k_is))
    (case m9 => (show Tk.Fct _ ("_law_lots" : Str) (K52.top 11)); (refine' Tk.fct ?a ?l ?c ?k); (case a => k_is); (case l => k_is); (case c => k_is); (case k => k_is))
    (case m10 => (show Tk.Fct _ ("_law_within" : Str) (K52.top 12)); (refine' Tk.fct ?a ?l ?c ?k); (case a => k_is); (case l => k_is); (case c => k_is); (case k => k_is))
    (case m11 => (show Tk.Fct _ ("law" : Str) (K52.top 13)); (refine' Tk.fct ?a ?l ?c ?k); (case a => k_is); (case l => k_is); (case c => k_is); (case k => k_is))
#print axioms PySem.Challenge.cw_talkbook_k52_lots_beside_one_another_holds

