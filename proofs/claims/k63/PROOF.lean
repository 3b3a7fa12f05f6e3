import PyProof.Rows.All
import Wide.All
import OpenK.AllK
import Wide.FinOn
import HandS.ForMost
import HandS.Exc
import HandS.TryOnly
import HandS.ExcOwn
import HandS.WordsExc
import HandS.CallSlots
import HandS.Deep
import HandS.TupAny
import HandS.SortInts
import HandS.Style
import HandS.IsInst
import HandS.Iter
import HandS.Defaults
import HandS.MakeKwOnly
import HandS.Dict
import KE.KDictDisplayH
import KE.KExcSuper
import HandS.ExcInit
import HandS.ExcField
import HandS.ExcSuper
import KE.KExcIs
import HandS.SortRule
import HandS.TupLe
import HandS.DictSubView
import KE.KDictWalk
import HandS.SetFor
import HandS.TupSets
import HandS.Strs
import HandS.Conv
import HandS.ReCall
import KE.KDictSum
import HandS.More
import HandS.Property
import PySem.Challenge.RW_tidyback_k63_machines_go_forward_and_bac
set_option Elab.async false
set_option linter.all false
set_option maxRecDepth 100000
set_option maxHeartbeats 8000000
set_option pp.maxSteps 300
namespace VL
open PySem PySem.Spec PyProof.Rows L2

/-! ## data and results -/
inductive Rs (α : Type) where
  | ok (a : α)
  | ex (c : Nat) (fs : List (Str × PyData))
  | no
def Rs.bind {α β : Type} : Rs α → (α → Rs β) → Rs β
  | .ok a, f => f a
  | .ex c fs, _ => .ex c fs
  | .no, _ => .no
@[simp] theorem Rs.bind_ok {α β : Type} (a : α) (f : α → Rs β) : (Rs.ok a).bind f = f a := rfl
@[simp] theorem Rs.bind_ex {α β : Type} (c fs) (f : α → Rs β) : (Rs.ex c fs : Rs α).bind f = .ex c fs := rfl
@[simp] theorem Rs.bind_no {α β : Type} (f : α → Rs β) : (Rs.no : Rs α).bind f = .no := rfl

/-- the classes of the exceptions, and the tables of code objects that may grow -/
structure CA where
  f : Nat → Addr
  T : List Addr
instance : CoeFun CA (fun _ => Nat → Addr) := ⟨CA.f⟩
/-- what a field of an own object holds: plain data, or a list of the object's own -/
inductive FV where
  | d (x : PyData)
  | ol (xs : List PyData)
/-- what an expression comes to: plain data; a list, a dict of its own (o), or borrowed of a slot (b); the script -/
inductive RV where
  | d (x : PyData)
  | ol (xs : List PyData) | bl (xs : List PyData)
  | od (kvs : List (Key × PyData)) | bd (kvs : List (Key × PyData))
  | ot (kvs : List (List Int × PyData)) | bt (kvs : List (List Int × PyData))
  | sc (ns : List Int)
  /-- a caught exception: where it lies, its dict, its class, its fields -/
  | xo (a dd : Addr) (c : Nat) (fs : List (Str × PyData))
  /-- a tuple of data, a frozen list and a frozen dict -/
  | t3 (x : PyData) (ys : List PyData) (kvs : List (Key × PyData))
  /-- a frozen dict -/
  | fd (kvs : List (Key × PyData))
  /-- an instance of the class of that name, of its own (me: the def's own self), and borrowed -/
  | ob (me : Bool) (x : Str) (fs : List (Str × FV))
  | bo (x : Str) (fs : List (Str × FV))
abbrev VEnv := List (Option RV)

/-- no dict of its own stands behind a tuple -/
def NDT (K : PySem.W.Frag) (F : Hp) (a : Addr) : Prop := (∃ o u, F a = some (.frz o u) ∧ o.dict = none) ∨ ∃ o, K.lookup a = some o ∧ o.dict = none
def SqN (K : PySem.W.Frag) (F : Hp) (a : Addr) (xs : List V) : Prop := SqT K F a xs ∧ NDT K F a
mutual
inductive Dq (K : PySem.W.Frag) (F : Hp) : V → PyData → Prop
  | non : Dq K F .non .none
  | bl (b : Bool) : Dq K F (.bl b) (.bool b)
  | int (i : Int) : Dq K F (.int i) (.int i)
  | str (x : Str) : Dq K F (.str x) (.str x)
  | lst {a : Addr} {xs : List V} {ds : List PyData} : F a = some (.lst xs) → DqA K F xs ds → Dq K F (.ref a) (.list ds)
  | tup {a : Addr} {xs : List V} {ds : List PyData} : SqN K F a xs → DqA K F xs ds → Dq K F (.ref a) (.tuple ds)
inductive DqA (K : PySem.W.Frag) (F : Hp) : List V → List PyData → Prop
  | nil : DqA K F [] []
  | cons {v : V} {vs : List V} {d : PyData} {ds : List PyData} : Dq K F v d → DqA K F vs ds → DqA K F (v :: vs) (d :: ds)
end

theorem same_seqT {K : PySem.W.Frag} {H H' : Hp} {a : Addr} {xs : List V} (e : Same H H') (h : SqT K H a xs) : SqT K H' a xs := by
  rcases h with (h | ⟨o, h⟩) | h
  · exact .inl (.inl (e _ _ h))
  · exact .inl (.inr ⟨o, e _ _ h⟩)
  · exact .inr h

theorem same_seqN {K : PySem.W.Frag} {H H' : Hp} {a : Addr} {xs : List V} (e : Same H H') (h : SqN K H a xs) : SqN K H' a xs :=
  ⟨same_seqT e h.1, h.2.imp (fun ⟨o, u, h1, h2⟩ => ⟨o, u, e _ _ h1, h2⟩) id⟩
theorem SqN.frz {K : PySem.W.Frag} {H : Hp} {a : Addr} {xs : List V} {o : Obj} (n : o.dict = none) (h : H a = some (.frz o (.tup xs))) : SqN K H a xs := ⟨.inl (.inr ⟨o, h⟩), .inl ⟨o, _, h, n⟩⟩

mutual
theorem Dq.mono {K : PySem.W.Frag} {F F' : Hp} (e : Same F F') : ∀ (d : PyData) (v : V), Dq K F v d → Dq K F' v d
  | .none, _, h => by cases h; exact .non
  | .bool b, _, h => by cases h; exact .bl b
  | .int i, _, h => by cases h; exact .int i
  | .str x, _, h => by cases h; exact .str x
  | .list ds, _, h => by
    cases h with
    | lst h1 h2 => exact .lst (e _ _ h1) (DqA.mono e ds _ h2)
  | .tuple ds, _, h => by
    cases h with
    | tup h1 h2 => exact .tup (same_seqN e h1) (DqA.mono e ds _ h2)
  | .dict _, _, h => by cases h
theorem DqA.mono {K : PySem.W.Frag} {F F' : Hp} (e : Same F F') : ∀ (ds : List PyData) (vs : List V), DqA K F vs ds → DqA K F' vs ds
  | [], _, h => by cases h; exact .nil
  | d :: ds, _, h => by
    cases h with
    | cons h1 h2 => exact .cons (Dq.mono e d _ h1) (DqA.mono e ds _ h2)
end
mutual
theorem Dq.dp {K : PySem.W.Frag} {F : Hp} : ∀ (d : PyData) (v : V), Dq K F v d → Dp K F v d
  | .none, _, h => by cases h; exact .non
  | .bool b, _, h => by cases h; exact .bl b
  | .int i, _, h => by cases h; exact .int i
  | .str x, _, h => by cases h; exact .str x
  | .list ds, _, h => by
    cases h with
    | lst h1 h2 => exact .lst (SqL.of h1) (DqA.dp ds _ h2)
  | .tuple ds, _, h => by
    cases h with
    | tup h1 h2 => exact .tup h1.1 (DqA.dp ds _ h2)
  | .dict _, _, h => by cases h
theorem DqA.dp {K : PySem.W.Frag} {F : Hp} : ∀ (ds : List PyData) (vs : List V), DqA K F vs ds → DpAll K F vs ds
  | [], _, h => by cases h; exact .nil
  | d :: ds, _, h => by
    cases h with
    | cons h1 h2 => exact .cons (Dq.dp d _ h1) (DqA.dp ds _ h2)
end
theorem DqA.length {K : PySem.W.Frag} {F : Hp} : ∀ {ds : List PyData} {vs : List V}, DqA K F vs ds → vs.length = ds.length
  | [], _, h => by cases h; rfl
  | d :: ds, _, h => by
    cases h with
    | cons h1 h2 => simp [DqA.length h2]
theorem DqA.get {K : PySem.W.Frag} {F : Hp} : ∀ {ds : List PyData} {vs : List V} {i : Nat} {d : PyData}, DqA K F vs ds → ds[i]? = some d → ∃ v, vs[i]? = some v ∧ Dq K F v d
  | [], _, i, _, h, e => by simp at e
  | d :: ds, _, 0, x, h, e => by
    cases h with
    | cons h1 h2 => simp at e; subst e; exact ⟨_, rfl, h1⟩
  | d :: ds, _, i + 1, x, h, e => by
    cases h with
    | cons h1 h2 =>
      obtain ⟨v, q1, q2⟩ := DqA.get (i := i) h2 (by simpa using e)
      exact ⟨v, by simpa using q1, q2⟩
theorem DqA.get' {K : PySem.W.Frag} {F : Hp} : ∀ {ds : List PyData} {vs : List V} {i : Nat} {v : V}, DqA K F vs ds → vs[i]? = some v → ∃ d, ds[i]? = some d ∧ Dq K F v d
  | [], _, i, _, h, e => by cases h; simp at e
  | d :: ds, _, 0, x, h, e => by
    cases h with
    | cons h1 h2 => simp at e; subst e; exact ⟨_, rfl, h1⟩
  | d :: ds, _, i + 1, x, h, e => by
    cases h with
    | cons h1 h2 =>
      obtain ⟨v, q1, q2⟩ := DqA.get' (i := i) h2 (by simpa using e)
      exact ⟨v, by simpa using q1, q2⟩
theorem DqA.append {K : PySem.W.Frag} {F : Hp} : ∀ {ds es : List PyData} {vs ws : List V}, DqA K F vs ds → DqA K F ws es → DqA K F (vs ++ ws) (ds ++ es)
  | [], _, _, _, h, k => by cases h; exact k
  | d :: ds, _, _, _, h, k => by
    cases h with
    | cons h1 h2 => exact .cons h1 (DqA.append h2 k)
theorem DqA.take {K : PySem.W.Frag} {F : Hp} : ∀ {ds : List PyData} {vs : List V} (n : Nat), DqA K F vs ds → DqA K F (vs.take n) (ds.take n)
  | _, _, 0, _ => .nil
  | [], _, n + 1, h => by cases h; exact .nil
  | d :: ds, _, n + 1, h => by
    cases h with
    | cons h1 h2 => exact .cons h1 (DqA.take n h2)
theorem DqA.drop {K : PySem.W.Frag} {F : Hp} : ∀ {ds : List PyData} {vs : List V} (n : Nat), DqA K F vs ds → DqA K F (vs.drop n) (ds.drop n)
  | _, _, 0, h => h
  | [], _, n + 1, h => by cases h; exact .nil
  | d :: ds, _, n + 1, h => by
    cases h with
    | cons h1 h2 => exact DqA.drop n h2
theorem DqA.set {K : PySem.W.Frag} {F : Hp} {v : V} {d : PyData} (q : Dq K F v d) : ∀ {ds : List PyData} {vs : List V} (n : Nat), DqA K F vs ds → DqA K F (vs.set n v) (ds.set n d)
  | [], _, n, h => by cases h; exact .nil
  | _ :: ds, _, 0, h => by
    cases h with
    | cons h1 h2 => exact .cons q h2
  | _ :: ds, _, n + 1, h => by
    cases h with
    | cons h1 h2 => exact .cons h1 (DqA.set q n h2)
theorem DqA.rev {K : PySem.W.Frag} {F : Hp} : ∀ {ds : List PyData} {vs : List V}, DqA K F vs ds → DqA K F vs.reverse ds.reverse
  | [], _, h => by cases h; exact .nil
  | _ :: ds, _, h => by
    cases h with
    | cons h1 h2 => rw [List.reverse_cons, List.reverse_cons]; exact DqA.append (DqA.rev h2) (.cons h1 .nil)
theorem DqA.ints {K : PySem.W.Frag} {F : Hp} : ∀ {ns : List Int} {vs : List V}, DqA K F vs (ns.map PyData.int) → vs = ns.map V.int
  | [], _, h => by cases h; rfl
  | _ :: ns, _, h => by
    cases h with
    | cons h1 h2 => cases h1; rw [DqA.ints h2]; rfl
theorem DqA.of_ints {K : PySem.W.Frag} {F : Hp} : ∀ (ns : List Int), DqA K F (ns.map V.int) (ns.map PyData.int)
  | [] => .nil
  | i :: ns => .cons (.int i) (DqA.of_ints ns)

/-! ## the frozen part of the heap -/
/-- no table -/
class NT (o : HO) : Prop where
  nt : ∀ ps, o ≠ .tbl ps
instance {xs} : NT (.lst xs) := ⟨fun _ z => by cases z⟩
instance {xs} : NT (.tup xs) := ⟨fun _ z => by cases z⟩
instance {xs} : NT (.dK xs) := ⟨fun _ z => by cases z⟩
instance {xs} : NT (.dT xs) := ⟨fun _ z => by cases z⟩
instance {S n} : NT (.set S n) := ⟨fun _ z => by cases z⟩
instance {C d f} : NT (.ins C d f) := ⟨fun _ z => by cases z⟩
instance {x} : NT (.own x) := ⟨fun _ z => by cases z⟩
instance {x} : NT (.xd x) := ⟨fun _ z => by cases z⟩
instance {f x} : NT (.met f x) := ⟨fun _ z => by cases z⟩
instance {f x} : NT (.rng f x) := ⟨fun _ z => by cases z⟩
instance {f x} : NT (.frz f x) := ⟨fun _ z => by cases z⟩
instance {f} : NT (.ext f) := ⟨fun _ z => by cases z⟩
/-- the frozen part F of H: all tuples are in it -/
structure Cfg (F H : Hp) : Prop where
  sub : Same F H
  tup : ∀ a xs, H a = some (.tup xs) → F a = some (.tup xs)
  nt : ∀ a ps, F a ≠ some (.tbl ps)
/-- what stood stands; tables may have grown -/
structure SameN (H H' : Hp) : Prop where
  st : ∀ a o, H a = some o → (∀ ps, o ≠ .tbl ps) → H' a = some o
  tb : ∀ a ps, H a = some (.tbl ps) → ∃ ps', H' a = some (.tbl ps') ∧ (TriplesOk ps.toList → TriplesOk ps'.toList)
instance {H H' : Hp} : CoeFun (SameN H H') (fun _ => ∀ a o [NT o], H a = some o → H' a = some o) := ⟨fun e => (fun a o [i : NT o] h => e.st a o h i.nt)⟩
theorem _root_.L2.Same.n {H H' : Hp} (e : Same H H') : SameN H H' := ⟨fun a o h _ => e a o h, fun a ps h => ⟨ps, e a _ h, id⟩⟩
theorem SameN.refl (H : Hp) : SameN H H := (Same.refl H).n
theorem SameN.trans {H H1 H2 : Hp} (a : SameN H H1) (b : SameN H1 H2) : SameN H H2 :=
  ⟨fun c o h nt => b.st c o (a.st c o h nt) nt, fun c ps h => by
    obtain ⟨p1, h1, t1⟩ := a.tb c ps h
    obtain ⟨p2, h2, t2⟩ := b.tb c p1 h1
    exact ⟨p2, h2, fun t => t2 (t1 t)⟩⟩
theorem SameN.free {H H' : Hp} (e : SameN H H') {a : Addr} (h : H' a = none) : H a = none := by
  cases q : H a with
  | none => rfl
  | some o =>
    by_cases t : ∃ ps, o = .tbl ps
    · obtain ⟨ps, rfl⟩ := t
      obtain ⟨ps', h2, _⟩ := e.tb a ps q
      rw [h] at h2; cases h2
    · have := e.st a o q fun ps z => t ⟨ps, z⟩
      rw [h] at this; cases this
theorem SameN.seq {K : PySem.W.Frag} {H H' : Hp} {a : Addr} {xs : List V} (e : SameN H H') (h : SqL K H a xs) : SqL K H' a xs := by
  rcases h with (h | ⟨o, h⟩) | h
  · exact .inl (.inl (e _ _ h))
  · exact .inl (.inr ⟨o, e _ _ h⟩)
  · exact .inr h
theorem SameN.seqT {K : PySem.W.Frag} {H H' : Hp} {a : Addr} {xs : List V} (e : SameN H H') (h : SqT K H a xs) : SqT K H' a xs := by
  rcases h with (h | ⟨o, h⟩) | h
  · exact .inl (.inl (e _ _ h))
  · exact .inl (.inr ⟨o, e _ _ h⟩)
  · exact .inr h
structure Grow (F H F' H' : Hp) : Prop where
  cfg : Cfg F' H'
  ff : Same F F'
  hh : SameN H H'
  nw : ∀ a o, F' a = some o → F a = some o ∨ H a = none
theorem Grow.refl {F H : Hp} (c : Cfg F H) : Grow F H F H := ⟨c, Same.refl _, SameN.refl _, fun _ _ h => .inl h⟩
theorem same_none {H H' : Hp} (e : Same H H') {a : Addr} (h : H' a = none) : H a = none := e.free h
theorem none_n {H H' : Hp} (e : SameN H H') {a : Addr} (h : H' a = none) : H a = none := e.free h
/-- a table grows -/
theorem Grow.table {F H : Hp} (c : Cfg F H) {P : Addr} {ps ps' : Array Value} (h : H P = some (.tbl ps)) (f : F P = none) (t : TriplesOk ps'.toList) : Grow F H F (upd H P (.tbl ps')) where
  cfg := ⟨fun b o e => by rw [upd_ne (show b ≠ P from fun z => by rw [z, f] at e; cases e)]; exact c.sub b o e, fun b xs e => by
    by_cases z : b = P
    · rw [z, upd_same] at e; cases e
    · rw [upd_ne z] at e; exact c.tup b xs e, c.nt⟩
  ff := Same.refl _
  hh := ⟨fun b o e nt => by
    by_cases z : b = P
    · rw [z, h] at e; exact absurd (Option.some.inj e).symm (nt ps)
    · rw [upd_ne z]; exact e, fun b qs e => by
    by_cases z : b = P
    · exact ⟨ps', by rw [z, upd_same], fun _ => t⟩
    · exact ⟨qs, by rw [upd_ne z]; exact e, id⟩⟩
  nw := fun _ _ e => .inl e
theorem Grow.trans {F H F1 H1 F2 H2 : Hp} (a : Grow F H F1 H1) (b : Grow F1 H1 F2 H2) : Grow F H F2 H2 :=
  ⟨b.cfg, a.ff.trans b.ff, a.hh.trans b.hh, fun x o h => by
    rcases b.nw x o h with h | h
    · exact a.nw x o h
    · exact .inr (none_n a.hh h)⟩
theorem Grow.stillFree {F H F' H' : Hp} (g : Grow F H F' H') {p : Addr} {o : HO} (f : F p = none) (h : H p = some o) : F' p = none := by
  cases q : F' p with
  | none => rfl
  | some u =>
    rcases g.nw p u q with z | z
    · rw [f] at z; cases z
    · rw [h] at z; cases z
/-- a new frozen object -/
theorem Grow.newF {F H : Hp} (c : Cfg F H) {p : Addr} (o : HO) [i : NT o] (n : H p = none) : Grow F H (upd F p o) (upd H p o) where
  cfg := ⟨fun b u h => by
      by_cases e : b = p
      · subst e; rw [upd_same] at h ⊢; exact h
      · rw [upd_ne e] at h ⊢; exact c.sub b u h, fun b xs h => by
      by_cases e : b = p
      · subst e; rw [upd_same] at h ⊢; exact h
      · rw [upd_ne e] at h ⊢; exact c.tup b xs h, fun b ps h => by
      by_cases e : b = p
      · subst e; rw [upd_same] at h; exact i.nt ps (Option.some.inj h)
      · rw [upd_ne e] at h; exact c.nt b ps h⟩
  ff := fun b u h => by rw [upd_ne (ne_of_none h (same_none c.sub n))]; exact h
  hh := Same.n fun b u h => by rw [upd_ne (ne_of_none h n)]; exact h
  nw := fun b u h => by
    by_cases e : b = p
    · subst e; exact .inr n
    · rw [upd_ne e] at h; exact .inl h
/-- a new object of its own (no tuple) -/
theorem Grow.newO {F H : Hp} (c : Cfg F H) {p : Addr} (o : HO) (n : H p = none) (nt : ∀ xs, o ≠ .tup xs) : Grow F H F (upd H p o) where
  cfg := ⟨fun b u h => by rw [upd_ne (ne_of_none (c.sub _ _ h) n)]; exact c.sub b u h, fun b xs h => by
      by_cases e : b = p
      · subst e; rw [upd_same] at h; exact absurd (Option.some.inj h) (nt xs)
      · rw [upd_ne e] at h; exact c.tup b xs h, c.nt⟩
  ff := Same.refl _
  hh := Same.n fun b u h => by rw [upd_ne (ne_of_none h n)]; exact h
  nw := fun _ _ h => .inl h
/-- what stood of its own is frozen -/
theorem Grow.freeze {F0 H0 F H : Hp} (g : Grow F0 H0 F H) {p : Addr} {o : HO} [i : NT o] (n0 : H0 p = none) (f : F p = none) (h : H p = some o) : Grow F0 H0 (upd F p o) H where
  cfg := ⟨fun b u q => by
      by_cases e : b = p
      · subst e; rw [upd_same] at q; cases q; exact h
      · rw [upd_ne e] at q; exact g.cfg.sub b u q, fun b xs q => by
      by_cases e : b = p
      · subst e; rw [q] at h; cases h; exact upd_same
      · rw [upd_ne e]; exact g.cfg.tup b xs q, fun b ps q => by
      by_cases e : b = p
      · subst e; rw [upd_same] at q; exact i.nt ps (Option.some.inj q)
      · rw [upd_ne e] at q; exact g.cfg.nt b ps q⟩
  ff := fun b u q => by
    have : b ≠ p := fun e => by subst e; rw [g.ff b u q] at f; cases f
    rw [upd_ne this]; exact g.ff b u q
  hh := g.hh
  nw := fun b u q => by
    by_cases e : b = p
    · subst e; exact .inr n0
    · rw [upd_ne e] at q; exact g.nw b u q
/-- an object of its own changes -/
theorem Grow.write {F0 H0 F H : Hp} (g : Grow F0 H0 F H) {p : Addr} {o o' : HO} (n0 : H0 p = none) (f : F p = none) (h : H p = some o) (nt : ∀ xs, o' ≠ .tup xs) : Grow F0 H0 F (upd H p o') where
  cfg := ⟨fun b u q => by
      have : b ≠ p := fun e => by subst e; rw [q] at f; cases f
      rw [upd_ne this]; exact g.cfg.sub b u q, fun b xs q => by
      by_cases e : b = p
      · subst e; rw [upd_same] at q; exact absurd (Option.some.inj q) (nt xs)
      · rw [upd_ne e] at q; exact g.cfg.tup b xs q, g.cfg.nt⟩
  ff := g.ff
  hh := ⟨fun b u q nt => by
    have : b ≠ p := fun e => by subst e; rw [q] at n0; cases n0
    rw [upd_ne this]; exact g.hh.st b u q nt, fun b ps q => by
    have : b ≠ p := fun e => by subst e; rw [q] at n0; cases n0
    rw [upd_ne this]; exact g.hh.tb b ps q⟩
  nw := g.nw

/-! ## what a value stands for -/
def KD {κ : Type} (K : PySem.W.Frag) (F : Hp) : List (κ × V) → List (κ × PyData) → Prop := Paired fun (p : κ × V) (q : κ × PyData) => p.1 = q.1 ∧ Dq K F p.2 q.2
theorem KD.mono {κ : Type} {K : PySem.W.Frag} {F F' : Hp} (e : Same F F') {a : List (κ × V)} {b : List (κ × PyData)} (h : KD K F a b) : KD K F' a b :=
  Paired.mapP h fun _ _ z => ⟨z.1, z.2.mono e⟩
/-- a dict whose keys are tuples of ints, by its entries -/
def hashT (ks : List Int) : Int := reduceHash (Builtin.Tuple.tupleHashOf (ks.map hashInt))
abbrev TX := Nat × List (List Int × Addr × Value)
def DTOk (d : Addr) (t : TX) (h : Heap) : Prop := ∃ o es, h.get? d = some o ∧ o.ExactDict ∧ o.data = .dict es t.1 ∧ es.toList = t.2.map (fun x => (⟨hashT x.1, .ref x.2.1, x.2.2⟩ : DictEntry)) ∧ (t.2.map (·.1)).Nodup ∧ t.2.length ≤ sizeLine ∧ (d == sysModules) = false
def DTO (d : Addr) (xs : TX) : HO := .ext (DTOk d xs)
def KTl (K : PySem.W.Frag) (F : Hp) : List (List Int × Addr × Value) → List (List Int × PyData) → Prop := Paired fun p q => p.1 = q.1 ∧ SqN K F p.2.1 (p.1.map V.int) ∧ ∃ v, RelV v p.2.2 ∧ Dq K F v q.2
def KTq (K : PySem.W.Frag) (F : Hp) (t : TX) (kvs : List (List Int × PyData)) : Prop := KTl K F t.2 kvs
theorem KTl.mono {K : PySem.W.Frag} {F F' : Hp} (e : Same F F') {a : List (List Int × Addr × Value)} {b : List (List Int × PyData)} (h : KTl K F a b) : KTl K F' a b :=
  Paired.mapP h fun _ _ z => ⟨z.1, same_seqN e z.2.1, z.2.2.choose, z.2.2.choose_spec.1, z.2.2.choose_spec.2.mono e⟩
theorem KTq.mono {K : PySem.W.Frag} {F F' : Hp} (e : Same F F') {a : TX} {b : List (List Int × PyData)} (h : KTq K F a b) : KTq K F' a b := KTl.mono e h
instance {d : Addr} {xs : TX} : NT (DTO d xs) := ⟨fun ps z => by
  have z' : HO.ext _ = HO.tbl ps := z
  cases z'⟩
theorem DTO_tup {d : Addr} {xs : TX} (ys : List V) : DTO d xs ≠ .tup ys := fun z => by
  have z' : HO.ext _ = HO.tup ys := z
  cases z'
/-- the fields of an instance -/
def FVok (K : PySem.W.Frag) (H0 F H : Hp) (v : V) : FV → Prop
  | .d x => Dq K F v x
  | .ol xs => ∃ q ws, v = .ref q ∧ H0 q = none ∧ F q = none ∧ H q = some (.lst ws) ∧ DqA K F ws xs
def FVb (K : PySem.W.Frag) (F H : Hp) (v : V) : FV → Prop
  | .d x => Dq K F v x
  | .ol xs => ∃ q ws, v = .ref q ∧ H q = some (.lst ws) ∧ DqA K F ws xs
def FOk (K : PySem.W.Frag) (H0 F H : Hp) : List (Str × V) → List (Str × FV) → Prop := Paired fun a b => a.1 = b.1 ∧ FVok K H0 F H a.2 b.2
def FBk (K : PySem.W.Frag) (F H : Hp) : List (Str × V) → List (Str × FV) → Prop := Paired fun a b => a.1 = b.1 ∧ FVb K F H a.2 b.2
/-- the addresses of an instance's own lists -/
def lad : List (Str × V) → List (Str × FV) → List Addr
  | (_, .ref q) :: vs, (_, .ol _) :: fs => q :: lad vs fs
  | _ :: vs, _ :: fs => lad vs fs
  | _, _ => []
def fla (H : Hp) (p : Addr) (fs : List (Str × FV)) : List Addr := match H p with
  | some (.ins _ _ vs) => lad vs fs
  | _ => []
def ClsNm (K : PySem.W.Frag) (x : Str) (C : Addr) : Prop := PySem.W.nsIn K mainGlobals x = some (some (.ref C))
theorem fla_eq {H : Hp} {p C dx : Addr} {vs : List (Str × V)} (fs : List (Str × FV)) (h : H p = some (.ins C dx vs)) : fla H p fs = lad vs fs := by unfold fla; rw [h]
theorem FOk.at {K : PySem.W.Frag} {H0 F H : Hp} {q : Addr} : ∀ {vs : List (Str × V)} {fs : List (Str × FV)}, FOk K H0 F H vs fs → q ∈ lad vs fs → H0 q = none ∧ F q = none ∧ ∃ ws, H q = some (.lst ws)
  | _, _, .nil, h => by simp [lad] at h
  | (n, v) :: vs, (m, f) :: fs, .cons h1 h2, h => by
    cases f with
    | d x => cases v <;> exact FOk.at h2 (by simpa [lad] using h)
    | ol xs =>
      obtain ⟨_, a, ws, e, n0, f0, hq, _⟩ := h1
      have e : v = .ref a := e
      subst e
      simp only [lad, List.mem_cons] at h
      rcases h with rfl | h
      · exact ⟨n0, f0, ws, hq⟩
      · exact FOk.at h2 h
theorem FBk.at {K : PySem.W.Frag} {F H : Hp} {q : Addr} : ∀ {vs : List (Str × V)} {fs : List (Str × FV)}, FBk K F H vs fs → q ∈ lad vs fs → ∃ ws, H q = some (.lst ws)
  | _, _, .nil, h => by simp [lad] at h
  | (n, v) :: vs, (m, f) :: fs, .cons h1 h2, h => by
    cases f with
    | d x => cases v <;> exact FBk.at h2 (by simpa [lad] using h)
    | ol xs =>
      obtain ⟨_, a, ws, e, hq, _⟩ := h1
      have e : v = .ref a := e
      subst e
      simp only [lad, List.mem_cons] at h
      rcases h with rfl | h
      · exact ⟨ws, hq⟩
      · exact FBk.at h2 h
/-- the fields in another state -/
theorem FOk.to {K : PySem.W.Frag} {H0 F H H0' F' H' : Hp} (e : Same F F') : ∀ {vs : List (Str × V)} {fs : List (Str × FV)}, FOk K H0 F H vs fs → (∀ q ∈ lad vs fs, ∀ ws, H0 q = none → F q = none → H q = some (.lst ws) → H0' q = none ∧ F' q = none ∧ H' q = some (.lst ws)) → FOk K H0' F' H' vs fs
  | _, _, .nil, _ => .nil
  | (n, v) :: vs, (m, f) :: fs, .cons h1 h2, h => by
    refine .cons ⟨h1.1, ?_⟩ (FOk.to e h2 fun q hq => h q ?_)
    · cases f with
      | d x => exact Dq.mono e x v h1.2
      | ol xs =>
        obtain ⟨_, a, ws, ev, n0, f0, hq, dq⟩ := h1
        have ev : v = .ref a := ev
        subst ev
        obtain ⟨a1, a2, a3⟩ := h a (by simp [lad]) ws n0 f0 hq
        exact ⟨a, ws, rfl, a1, a2, a3, DqA.mono e _ _ dq⟩
    · cases f <;> cases v <;> first | exact hq | exact List.mem_cons_of_mem _ hq
theorem FBk.to {K : PySem.W.Frag} {F H F' H' : Hp} (e : Same F F') : ∀ {vs : List (Str × V)} {fs : List (Str × FV)}, FBk K F H vs fs → (∀ q ∈ lad vs fs, ∀ ws, H q = some (.lst ws) → H' q = some (.lst ws)) → FBk K F' H' vs fs
  | _, _, .nil, _ => .nil
  | (n, v) :: vs, (m, f) :: fs, .cons h1 h2, h => by
    refine .cons ⟨h1.1, ?_⟩ (FBk.to e h2 fun q hq => h q ?_)
    · cases f with
      | d x => exact Dq.mono e x v h1.2
      | ol xs =>
        obtain ⟨_, a, ws, ev, hq, dq⟩ := h1
        have ev : v = .ref a := ev
        subst ev
        exact ⟨a, ws, rfl, h a (by simp [lad]) ws hq, DqA.mono e _ _ dq⟩
    · cases f <;> cases v <;> first | exact hq | exact List.mem_cons_of_mem _ hq
theorem FOk.bor {K : PySem.W.Frag} {H0 F H : Hp} : ∀ {vs : List (Str × V)} {fs : List (Str × FV)}, FOk K H0 F H vs fs → FBk K F H vs fs
  | _, _, .nil => .nil
  | (n, v) :: vs, (m, f) :: fs, .cons h1 h2 => by
    refine .cons ⟨h1.1, ?_⟩ (FOk.bor h2)
    cases f with
    | d x => exact h1.2
    | ol xs => obtain ⟨_, a, ws, ev, _, _, hq, dq⟩ := h1; exact ⟨a, ws, ev, hq, dq⟩
def ObOk (K : PySem.W.Frag) (H0 F H : Hp) (p : Addr) (x : Str) (fs : List (Str × FV)) : Prop := ∃ C dx vs, ClsNm K x C ∧ H p = some (.ins C dx vs) ∧ H0 p = none ∧ F p = none ∧ FOk K H0 F H vs fs ∧ (lad vs fs).Nodup
theorem ObOk.to {K : PySem.W.Frag} {H0 F H H0' F' H' : Hp} {p : Addr} {x : Str} {fs : List (Str × FV)} (h : ObOk K H0 F H p x fs) (e : Same F F') (n0 : H0' p = none) (f0 : F' p = none) (hp : H' p = H p)
    (hq : ∀ q ∈ fla H p fs, ∀ ws, H0 q = none → F q = none → H q = some (.lst ws) → H0' q = none ∧ F' q = none ∧ H' q = some (.lst ws)) : ObOk K H0' F' H' p x fs := by
  obtain ⟨C, dx, vs, c, h1, _, _, fo, nd⟩ := h
  exact ⟨C, dx, vs, c, hp.trans h1, n0, f0, fo.to e (by rw [fla_eq fs h1] at hq; exact hq), nd⟩
theorem ObOk.at {K : PySem.W.Frag} {H0 F H : Hp} {p q : Addr} {x : Str} {fs : List (Str × FV)} (h : ObOk K H0 F H p x fs) (hq : q ∈ fla H p fs) : H0 q = none ∧ F q = none ∧ ∃ ws, H q = some (.lst ws) := by
  obtain ⟨C, dx, vs, c, h1, _, _, fo, nd⟩ := h
  rw [fla_eq fs h1] at hq
  exact fo.at hq
def BoOk (K : PySem.W.Frag) (F H : Hp) (p : Addr) (x : Str) (fs : List (Str × FV)) : Prop := ∃ C dx vs, ClsNm K x C ∧ H p = some (.ins C dx vs) ∧ FBk K F H vs fs
theorem BoOk.to {K : PySem.W.Frag} {F H F' H' : Hp} {p : Addr} {x : Str} {fs : List (Str × FV)} (h : BoOk K F H p x fs) (e : Same F F') (hp : H' p = H p) (hq : ∀ q ∈ fla H p fs, ∀ ws, H q = some (.lst ws) → H' q = some (.lst ws)) : BoOk K F' H' p x fs := by
  obtain ⟨C, dx, vs, c, h1, fo⟩ := h
  exact ⟨C, dx, vs, c, hp.trans h1, fo.to e (by rw [fla_eq fs h1] at hq; exact hq)⟩
theorem BoOk.at {K : PySem.W.Frag} {F H : Hp} {p q : Addr} {x : Str} {fs : List (Str × FV)} (h : BoOk K F H p x fs) (hq : q ∈ fla H p fs) : ∃ ws, H q = some (.lst ws) := by
  obtain ⟨C, dx, vs, c, h1, fo⟩ := h
  rw [fla_eq fs h1] at hq
  exact fo.at hq
theorem ObOk.bo {K : PySem.W.Frag} {H0 F H : Hp} {p : Addr} {x : Str} {fs : List (Str × FV)} (h : ObOk K H0 F H p x fs) : BoOk K F H p x fs := by
  obtain ⟨C, dx, vs, c, h1, _, _, fo, nd⟩ := h
  exact ⟨C, dx, vs, c, h1, fo.bor⟩
theorem ObOk.ins {K : PySem.W.Frag} {H0 F H : Hp} {p : Addr} {x : Str} {fs : List (Str × FV)} (h : ObOk K H0 F H p x fs) : ∃ C dx vs, H p = some (.ins C dx vs) := by
  obtain ⟨C, dx, vs, c, h1, _⟩ := h
  exact ⟨C, dx, vs, h1⟩
theorem BoOk.ins {K : PySem.W.Frag} {F H : Hp} {p : Addr} {x : Str} {fs : List (Str × FV)} (h : BoOk K F H p x fs) : ∃ C dx vs, H p = some (.ins C dx vs) := by
  obtain ⟨C, dx, vs, c, h1, _⟩ := h
  exact ⟨C, dx, vs, h1⟩
def RVok (K : PySem.W.Frag) (H0 F H : Hp) (v : V) : RV → Prop
  | .d x => Dq K F v x
  | .ol xs => ∃ p vs, v = .ref p ∧ H0 p = none ∧ F p = none ∧ H p = some (.lst vs) ∧ DqA K F vs xs
  | .bl xs => ∃ p vs, v = .ref p ∧ H p = some (.lst vs) ∧ DqA K F vs xs
  | .od xs => ∃ p vs, v = .ref p ∧ H0 p = none ∧ F p = none ∧ H p = some (.dK vs) ∧ KD K F vs xs
  | .bd xs => ∃ p vs, v = .ref p ∧ Rd H p (.dK vs) ∧ KD K F vs xs
  | .ot xs => ∃ p vs, v = .ref p ∧ H0 p = none ∧ F p = none ∧ H p = some (DTO p vs) ∧ KTq K F vs xs
  | .bt xs => ∃ p vs, v = .ref p ∧ H p = some (DTO p vs) ∧ KTq K F vs xs
  | .sc ns => ∃ a, v = .ref a ∧ SqL K F a (ns.map V.int)
  | .xo a dd _ fs => v = .ref a ∧ ∃ xs, H dd = some (.xd xs) ∧ KD K F xs fs
  | .t3 x ys kvs => ∃ p w l d vs us, v = .ref p ∧ SqT K F p [w, .ref l, .ref d] ∧ Dq K F w x ∧ (F l = some (.lst vs) ∧ DqA K F vs ys) ∧ (∃ o, F d = some (.frz o (.dK us))) ∧ KD K F us kvs
  | .fd kvs => ∃ p us, v = .ref p ∧ (∃ o, F p = some (.frz o (.dK us))) ∧ KD K F us kvs
  | .ob _ x fs => ∃ p, v = .ref p ∧ ObOk K H0 F H p x fs
  | .bo x fs => ∃ p, v = .ref p ∧ BoOk K F H p x fs
theorem t3_mono {K : PySem.W.Frag} {H0 F H H0' F' H' : Hp} {v : V} {x : PyData} {ys : List PyData} {kvs : List (Key × PyData)} (e : Same F F') (h : RVok K H0 F H v (.t3 x ys kvs)) : RVok K H0' F' H' v (.t3 x ys kvs) := by
  obtain ⟨p, w, l, d, vs, us, ev, s, qw, ⟨hl, ql⟩, ⟨o, hd⟩, qd⟩ := h
  exact ⟨p, w, l, d, vs, us, ev, same_seqT e s, Dq.mono e x w qw, ⟨e _ _ hl, DqA.mono e _ _ ql⟩, ⟨o, e _ _ hd⟩, qd.mono e⟩
theorem fd_mono {K : PySem.W.Frag} {H0 F H H0' F' H' : Hp} {v : V} {kvs : List (Key × PyData)} (e : Same F F') (h : RVok K H0 F H v (.fd kvs)) : RVok K H0' F' H' v (.fd kvs) := by
  obtain ⟨p, us, ev, ⟨o, hd⟩, qd⟩ := h
  exact ⟨p, us, ev, ⟨o, e _ _ hd⟩, qd.mono e⟩
theorem fla_grow {H H' : Hp} (e : SameN H H') {p : Addr} (fs : List (Str × FV)) (h : ∃ C dx vs, H p = some (.ins C dx vs)) : fla H' p fs = fla H p fs := by
  obtain ⟨C, dx, vs, h⟩ := h
  rw [fla_eq fs h, fla_eq fs (e _ _ h)]
theorem ObOk.grow {K : PySem.W.Frag} {H0 F H F' H' : Hp} {p : Addr} {x : Str} {fs : List (Str × FV)} (h : ObOk K H0 F H p x fs) (g : Grow F H F' H') : ObOk K H0 F' H' p x fs := by
  have h' := h
  obtain ⟨C, dx, vs, c, h1, n0, f0, _⟩ := h'
  exact h.to g.ff n0 (g.stillFree f0 h1) ((g.hh _ _ h1).trans h1.symm) fun q _ ws n f e => ⟨n, g.stillFree f e, g.hh _ _ e⟩
theorem BoOk.grow {K : PySem.W.Frag} {F H F' H' : Hp} {p : Addr} {x : Str} {fs : List (Str × FV)} (h : BoOk K F H p x fs) (ff : Same F F') (hh : SameN H H') : BoOk K F' H' p x fs := by
  have h' := h
  obtain ⟨C, dx, vs, c, h1, _⟩ := h'
  exact h.to ff ((hh _ _ h1).trans h1.symm) fun q _ ws e => hh _ _ e
theorem RVok.grow {K : PySem.W.Frag} {H0 F H F' H' : Hp} {v : V} {r : RV} (h : RVok K H0 F H v r) (g : Grow F H F' H') : RVok K H0 F' H' v r := by
  cases r with
  | d x => exact Dq.mono g.ff x v h
  | ol xs => obtain ⟨p, vs, e, n0, f, hp, q⟩ := h; exact ⟨p, vs, e, n0, g.stillFree f hp, g.hh _ _ hp, DqA.mono g.ff _ _ q⟩
  | bl xs => obtain ⟨p, vs, e, hp, q⟩ := h; exact ⟨p, vs, e, g.hh _ _ hp, DqA.mono g.ff _ _ q⟩
  | od xs => obtain ⟨p, vs, e, n0, f, hp, q⟩ := h; exact ⟨p, vs, e, n0, g.stillFree f hp, g.hh _ _ hp, q.mono g.ff⟩
  | bd xs => obtain ⟨p, vs, e, hp, q⟩ := h; exact ⟨p, vs, e, hp.imp (g.hh _ _) (fun ⟨o, z⟩ => ⟨o, g.hh _ _ z⟩), q.mono g.ff⟩
  | ot xs => obtain ⟨p, vs, e, n0, f, hp, q⟩ := h; exact ⟨p, vs, e, n0, g.stillFree f hp, g.hh _ _ hp, q.mono g.ff⟩
  | bt xs => obtain ⟨p, vs, e, hp, q⟩ := h; exact ⟨p, vs, e, g.hh _ _ hp, q.mono g.ff⟩
  | sc ns => obtain ⟨a, e, q⟩ := h; exact ⟨a, e, g.ff.seq q⟩
  | xo a dd c fs => obtain ⟨e, xs, hp, q⟩ := h; exact ⟨e, xs, g.hh _ _ hp, q.mono g.ff⟩
  | t3 x ys kvs => exact t3_mono g.ff h
  | fd kvs => exact fd_mono g.ff h
  | ob me x fs => obtain ⟨p, e, h⟩ := h; exact ⟨p, e, h.grow g⟩
  | bo x fs => obtain ⟨p, e, h⟩ := h; exact ⟨p, e, h.grow g.ff g.hh⟩
/-- fresh over a later heap is fresh over an earlier one -/
theorem RVok.older {K : PySem.W.Frag} {H0 H1 F H : Hp} {v : V} {r : RV} (h : RVok K H1 F H v r) (e : SameN H0 H1) : RVok K H0 F H v r := by
  cases r with
  | ol xs => obtain ⟨p, vs, e1, n0, q⟩ := h; exact ⟨p, vs, e1, none_n e n0, q⟩
  | od xs => obtain ⟨p, vs, e1, n0, q⟩ := h; exact ⟨p, vs, e1, none_n e n0, q⟩
  | ot xs => obtain ⟨p, vs, e1, n0, q⟩ := h; exact ⟨p, vs, e1, none_n e n0, q⟩
  | ob me x fs =>
    obtain ⟨p, ev, h⟩ := h
    have h' := h
    obtain ⟨C, dx, vs, c, h1, n0, f0, _⟩ := h'
    exact ⟨p, ev, h.to (Same.refl _) (none_n e n0) f0 rfl fun q _ ws n f eq => ⟨none_n e n, f, eq⟩⟩
  | _ => exact h

/-- of its own -/
def RV.own : RV → Bool
  | .ol _ | .od _ | .ot _ | .ob _ _ _ => true
  | _ => false
def RV.isB : RV → Bool
  | .bl _ | .bd _ | .bt _ | .bo _ _ => true
  | _ => false
/-- borrowed -/
def RV.bor : RV → RV
  | .ol xs => .bl xs
  | .od xs => .bd xs
  | .ot xs => .bt xs
  | .ob _ x fs => .bo x fs
  | r => r
theorem RVok.bor {K : PySem.W.Frag} {H0 F H : Hp} {v : V} {r : RV} (h : RVok K H0 F H v r) : RVok K H0 F H v r.bor := by
  cases r with
  | ol xs => obtain ⟨p, vs, e1, n0, f, q⟩ := h; exact ⟨p, vs, e1, q⟩
  | od xs => obtain ⟨p, vs, e1, n0, f, hp, q⟩ := h; exact ⟨p, vs, e1, .inl hp, q⟩
  | ot xs => obtain ⟨p, vs, e1, n0, f, q⟩ := h; exact ⟨p, vs, e1, q⟩
  | ob me x fs => obtain ⟨p, e1, h⟩ := h; exact ⟨p, e1, h.bo⟩
  | _ => exact h

/-! ## the state of a body -/
structure Base where
  F : Hp
  H : Hp
  /-- the def's own self -/
  me : Addr := 0
def TabOk (T : List Addr) (F H : Hp) : Prop := ∀ P ∈ T, F P = none ∧ ∃ ps : Array Value, H P = some (.tbl ps) ∧ TriplesOk ps.toList
theorem TabOk.grow {T : List Addr} {F H F' H' : Hp} (h : TabOk T F H) (g : Grow F H F' H') : TabOk T F' H' := fun P hP => by
  obtain ⟨f0, ps, hp, t⟩ := h P hP
  obtain ⟨ps', hp', t'⟩ := g.hh.tb P ps hp
  exact ⟨g.stillFree f0 hp, ps', hp', t' t⟩
theorem TabOk.to {T : List Addr} {F H F' H' : Hp} (h : TabOk T F H) (hf : ∀ P ps, F P = none → H P = some (.tbl ps) → F' P = none ∧ H' P = H P) : TabOk T F' H' := fun P hP => by
  obtain ⟨f0, ps, hp, t⟩ := h P hP
  obtain ⟨a, b⟩ := hf P ps f0 hp
  exact ⟨a, ps, b.trans hp, t⟩
/-- tables, instances and their own lists keep apart -/
structure Rg (ca : CA) (B : Base) (F : Hp) (env : VEnv) (σ : L2.St) (H : Hp) : Prop where
  tb : TabOk ca.T F H
  o1 : ∀ (i j : Nat) (p q : Addr) (me : Bool) (x : Str) (fs : List (Str × FV)) (r : RV), env[i]? = some (some (.ob me x fs)) → σ[i]? = some (some (.ref p)) → q ∈ fla H p fs → env[j]? = some (some r) → r.own = true → σ[j]? ≠ some (some (.ref q))
  o2 : ∀ (i j : Nat) (p p' q : Addr) (me me' : Bool) (x x' : Str) (fs fs' : List (Str × FV)), i ≠ j → env[i]? = some (some (.ob me x fs)) → σ[i]? = some (some (.ref p)) → env[j]? = some (some (.ob me' x' fs')) → σ[j]? = some (some (.ref p')) → q ∈ fla H p fs → q ∉ fla H p' fs'
  o3 : ∀ (i : Nat) (p q : Addr) (x : Str) (fs : List (Str × FV)), env[i]? = some (some (.bo x fs)) → σ[i]? = some (some (.ref p)) → q ∈ fla H p fs → ∃ o, B.H q = some o
  me : ∀ (i : Nat) (x : Str) (fs : List (Str × FV)), env[i]? = some (some (.ob true x fs)) → σ[i]? = some (some (.ref B.me))
structure StOk (K : PySem.W.Frag) (ca : CA) (B : Base) (F : Hp) (env : VEnv) (σ : L2.St) (H : Hp) : Prop where
  gr : Grow B.F B.H F H
  len : env.length = σ.length
  sl : ∀ (i : Nat) (r : RV), env[i]? = some (some r) → ∃ v, σ[i]? = some (some v) ∧ RVok K B.H F H v r
  bo : ∀ (i : Nat) (r : RV) (p : Addr), env[i]? = some (some r) → r.isB = true → σ[i]? = some (some (.ref p)) → ∃ o, B.H p = some o
  dis : ∀ (i j : Nat) (r r' : RV) (p : Addr), i ≠ j → env[i]? = some (some r) → env[j]? = some (some r') → r.own = true → r'.own = true → σ[i]? = some (some (.ref p)) → σ[j]? ≠ some (some (.ref p))
  rg : Rg ca B F env σ H
/-- the address of a slot's instance -/
theorem StOk.obAt {K : PySem.W.Frag} {B : Base} {F H : Hp} {env : VEnv} {σ : L2.St} (s : StOk K ca B F env σ H) {i : Nat} {p : Addr} {me : Bool} {x : Str} {fs : List (Str × FV)} (e : env[i]? = some (some (.ob me x fs))) (z : σ[i]? = some (some (.ref p))) : ObOk K B.H F H p x fs := by
  obtain ⟨v, e1, p', ev, h⟩ := s.sl i _ e
  rw [z] at e1
  subst ev
  cases e1
  exact h
theorem StOk.boAt {K : PySem.W.Frag} {B : Base} {F H : Hp} {env : VEnv} {σ : L2.St} (s : StOk K ca B F env σ H) {i : Nat} {p : Addr} {x : Str} {fs : List (Str × FV)} (e : env[i]? = some (some (.bo x fs))) (z : σ[i]? = some (some (.ref p))) : BoOk K F H p x fs := by
  obtain ⟨v, e1, p', ev, h⟩ := s.sl i _ e
  rw [z] at e1
  subst ev
  cases e1
  exact h
/-- another heap in which the instances stand as they stood -/
theorem StOk.rgTo {K : PySem.W.Frag} {B : Base} {F H F' H' : Hp} {env : VEnv} {σ : L2.St} (s : StOk K ca B F env σ H) (tb : TabOk ca.T F' H') (hp : ∀ (i : Nat) (p C dx : Addr) (vs : List (Str × V)) (r : RV), env[i]? = some (some r) → σ[i]? = some (some (.ref p)) → (r.own = true ∨ r.isB = true) → H p = some (.ins C dx vs) → H' p = H p) : Rg ca B F' env σ H' := by
  have eo : ∀ {i : Nat} {p : Addr} {me : Bool} {x : Str} {fs : List (Str × FV)}, env[i]? = some (some (.ob me x fs)) → σ[i]? = some (some (.ref p)) → fla H' p fs = fla H p fs := fun e z => by
    obtain ⟨C, dx, vs, hi⟩ := (s.obAt e z).ins
    unfold fla
    rw [hp _ _ _ _ _ _ e z (.inl rfl) hi]
  have eb : ∀ {i : Nat} {p : Addr} {x : Str} {fs : List (Str × FV)}, env[i]? = some (some (.bo x fs)) → σ[i]? = some (some (.ref p)) → fla H' p fs = fla H p fs := fun e z => by
    obtain ⟨C, dx, vs, hi⟩ := (s.boAt e z).ins
    unfold fla
    rw [hp _ _ _ _ _ _ e z (.inr rfl) hi]
  exact ⟨tb, fun i j p q me x fs r e z hq => s.rg.o1 i j p q me x fs r e z (by rw [← eo e z]; exact hq),
    fun i j p p' q me me' x x' fs fs' ij e z e' z' hq hq' => s.rg.o2 i j p p' q me me' x x' fs fs' ij e z e' z' (by rw [← eo e z]; exact hq) (by rw [← eo e' z']; exact hq'),
    fun i p q x fs e z hq => s.rg.o3 i p q x fs e z (by rw [← eb e z]; exact hq), s.rg.me⟩
theorem StOk.rgGrow {K : PySem.W.Frag} {B : Base} {F H F' H' : Hp} {env : VEnv} {σ : L2.St} (s : StOk K ca B F env σ H) (g : Grow F H F' H') : Rg ca B F' env σ H' :=
  s.rgTo (s.rg.tb.grow g) fun _ _ _ _ _ _ _ _ _ h => (g.hh _ _ h).trans h.symm
theorem StOk.grow {K : PySem.W.Frag} {B : Base} {F H F' H' : Hp} {env : VEnv} {σ : L2.St} (s : StOk K ca B F env σ H) (g : Grow F H F' H') : StOk K ca B F' env σ H' :=
  ⟨s.gr.trans g, s.len, fun i r e => by
    obtain ⟨v, e1, h⟩ := s.sl i r e
    exact ⟨v, e1, h.grow g⟩, s.bo, s.dis, s.rgGrow g⟩
theorem StOk.cfg {K : PySem.W.Frag} {B : Base} {F H : Hp} {env : VEnv} {σ : L2.St} (s : StOk K ca B F env σ H) : Cfg F H := s.gr.cfg

/-! ## expressions -/
section
variable (K : PySem.W.Frag) (ca : CA)
def ExOk (F H : Hp) (cls : Value) (dx : Option Addr) (c : Nat) (fs : List (Str × PyData)) : Prop :=
  cls = .ref (ca c) ∧ ∃ dd xs, dx = some dd ∧ H dd = some (.xd xs) ∧ KD K F xs fs
def PostX (W : WX) (σ : L2.St) (F H : Hp) (c : Nat) (fs : List (Str × PyData)) : Prop :=
  ∀ F' H' cls dx, Grow F H F' H' → ExOk K ca F' H' cls dx c fs → W cls dx σ H'
def PostE (W : WX) (σ : L2.St) (F H : Hp) (Q : VK) : Rs RV → Prop
  | .ok r => ∀ F' H' v, Grow F H F' H' → RVok K H F' H' v r → Q v H'
  | .ex c fs => PostX K ca W σ F H c fs
  | .no => False
def PostB (W : WX) (σ : L2.St) (F H : Hp) (Q : Bool → Hp → Prop) : Rs Bool → Prop
  | .ok b => ∀ F' H', Grow F H F' H' → Q b H'
  | .ex c fs => PostX K ca W σ F H c fs
  | .no => False
def PostA (W : WX) (σ : L2.St) (F H : Hp) (Q : List V → Hp → Prop) : Rs (List RV) → Prop
  | .ok rs => ∀ F' H' vs, Grow F H F' H' → Paired (fun v r => RVok K H F' H' v r) vs rs → Q vs H'
  | .ex c fs => PostX K ca W σ F H c fs
  | .no => False
def SndE (W : WX) (t : TE) (f : VEnv → Rs RV) : Prop := ∀ B F env σ H Q, StOk K ca B F env σ H → PostE K ca W σ F H Q (f env) → t σ H Q
def SndT (W : WX) (t : TT) (f : VEnv → Rs Bool) : Prop := ∀ B F env σ H Q, StOk K ca B F env σ H → PostB K ca W σ F H Q (f env) → t σ H Q
def SndA (W : WX) (t : TA) (f : VEnv → Rs (List RV)) : Prop := ∀ B F env σ H Q, StOk K ca B F env σ H → PostA K ca W σ F H Q (f env) → t σ H Q
end
section
variable {K : PySem.W.Frag} {ca : CA} {W : WX} {B : Base} {F H F1 H1 : Hp} {env : VEnv} {σ : L2.St}
theorem PostX.mono {c : Nat} {fs : List (Str × PyData)} (g : Grow F H F1 H1) (h : PostX K ca W σ F H c fs) : PostX K ca W σ F1 H1 c fs :=
  fun F' H' cls dx g' e => h F' H' cls dx (g.trans g') e
theorem PostE.mono {Q : VK} {m : Rs RV} (g : Grow F H F1 H1) (h : PostE K ca W σ F H Q m) : PostE K ca W σ F1 H1 Q m := by
  cases m with
  | ok r => exact fun F' H' v g' e => h F' H' v (g.trans g') (e.older g.hh)
  | ex c fs => exact PostX.mono g h
  | no => exact h
theorem PostB.mono {Q : Bool → Hp → Prop} {m : Rs Bool} (g : Grow F H F1 H1) (h : PostB K ca W σ F H Q m) : PostB K ca W σ F1 H1 Q m := by
  cases m with
  | ok r => exact fun F' H' g' => h F' H' (g.trans g')
  | ex c fs => exact PostX.mono g h
  | no => exact h
theorem paired_older {K : PySem.W.Frag} {H0 H1 F H : Hp} (e : SameN H0 H1) {vs : List V} {rs : List RV} (h : Paired (fun v r => RVok K H1 F H v r) vs rs) : Paired (fun v r => RVok K H0 F H v r) vs rs :=
  Paired.mapP h fun _ _ z => z.older e
theorem paired_grow {K : PySem.W.Frag} {H0 F H F' H' : Hp} (g : Grow F H F' H') {vs : List V} {rs : List RV} (h : Paired (fun v r => RVok K H0 F H v r) vs rs) : Paired (fun v r => RVok K H0 F' H' v r) vs rs :=
  Paired.mapP h fun _ _ z => z.grow g
theorem PostA.mono {Q : List V → Hp → Prop} {m : Rs (List RV)} (g : Grow F H F1 H1) (h : PostA K ca W σ F H Q m) : PostA K ca W σ F1 H1 Q m := by
  cases m with
  | ok r => exact fun F' H' v g' e => h F' H' v (g.trans g') (paired_older g.hh e)
  | ex c fs => exact PostX.mono g h
  | no => exact h
/-- one part, then what hangs on it -/
theorem seqE {t : TE} {f : VEnv → Rs RV} {Q : VK} {α : Type} {k : RV → Rs α} (P : Rs α → Prop) (s : SndE K ca W t f) (st : StOk K ca B F env σ H)
    (post : P ((f env).bind k)) (hx : ∀ c fs, P (.ex c fs) → PostX K ca W σ F H c fs) (hn : ¬ P .no)
    (h : ∀ r F1 H1 v, P (k r) → Grow F H F1 H1 → RVok K H F1 H1 v r → Q v H1) : t σ H Q := by
  refine s B F env σ H Q st ?_
  cases e : f env with
  | ok r => rw [e] at post; exact fun F' H' v g q => h r F' H' v post g q
  | ex c fs => rw [e] at post; exact hx c fs post
  | no => rw [e] at post; exact hn post
theorem seqT {t : TT} {f : VEnv → Rs Bool} {Q : Bool → Hp → Prop} {α : Type} {k : Bool → Rs α} (P : Rs α → Prop) (s : SndT K ca W t f) (st : StOk K ca B F env σ H)
    (post : P ((f env).bind k)) (hx : ∀ c fs, P (.ex c fs) → PostX K ca W σ F H c fs) (hn : ¬ P .no)
    (h : ∀ r F1 H1, P (k r) → Grow F H F1 H1 → Q r H1) : t σ H Q := by
  refine s B F env σ H Q st ?_
  cases e : f env with
  | ok r => rw [e] at post; exact fun F' H' g => h r F' H' post g
  | ex c fs => rw [e] at post; exact hx c fs post
  | no => rw [e] at post; exact hn post
theorem seqA {t : TA} {f : VEnv → Rs (List RV)} {Q : List V → Hp → Prop} {α : Type} {k : List RV → Rs α} (P : Rs α → Prop) (s : SndA K ca W t f) (st : StOk K ca B F env σ H)
    (post : P ((f env).bind k)) (hx : ∀ c fs, P (.ex c fs) → PostX K ca W σ F H c fs) (hn : ¬ P .no)
    (h : ∀ r F1 H1 vs, P (k r) → Grow F H F1 H1 → Paired (fun v r => RVok K H F1 H1 v r) vs r → Q vs H1) : t σ H Q := by
  refine s B F env σ H Q st ?_
  cases e : f env with
  | ok r => rw [e] at post; exact fun F' H' v g q => h r F' H' v post g q
  | ex c fs => rw [e] at post; exact hx c fs post
  | no => rw [e] at post; exact hn post
end

structure VE (ca : CA) (W : WX) (X : Cx) (e : Expr) (f : VEnv → Rs RV) : Prop where
  ex : ∃ t, PE X e t ∧ SndE X.K ca W t f
structure VT (ca : CA) (W : WX) (X : Cx) (e : Expr) (f : VEnv → Rs Bool) : Prop where
  ex : ∃ t, PT X e t ∧ SndT X.K ca W t f
structure VW (ca : CA) (W : WX) (X : Cx) (e : Expr) (f : VEnv → Rs Bool) : Prop where
  ex : ∃ t, PW X e t ∧ SndT X.K ca W t f
structure VA (ca : CA) (W : WX) (X : Cx) (es : List Expr) (f : VEnv → Rs (List RV)) : Prop where
  ex : ∃ t, PA X es t ∧ SndA X.K ca W t f

section
variable {ca : CA} {W : WX} {X : Cx} {a b e : Expr} {es : List Expr} {fa fb : VEnv → Rs RV} {pos : Pos}
/-! ### names and constants -/
def cC (x : PyData) : VEnv → Rs RV := fun _ => .ok (.d x)
theorem ve_int {i j pos} : VE ca W X (.Constant (.int i) j pos) (cC (.int i)) := ⟨_, pe_int, fun _ _ _ _ _ _ st p => p _ _ _ (Grow.refl st.cfg) (.int i)⟩
theorem ve_bl {b j pos} : VE ca W X (.Constant (.bool b) j pos) (cC (.bool b)) := ⟨_, pe_bl, fun _ _ _ _ _ _ st p => p _ _ _ (Grow.refl st.cfg) (.bl b)⟩
theorem ve_non {j pos} : VE ca W X (.Constant .none j pos) (cC .none) := ⟨_, pe_non, fun _ _ _ _ _ _ st p => p _ _ _ (Grow.refl st.cfg) .non⟩
theorem ve_str {x j pos} : VE ca W X (.Constant (.str x) j pos) (cC (.str x)) := ⟨_, pe_str, fun _ _ _ _ _ _ st p => p _ _ _ (Grow.refl st.cfg) (.str x)⟩
/-- a name: borrowed where the slot's list or dict is of its own -/
def cV (i : Nat) : VEnv → Rs RV := fun env => match env[i]? with
  | some (some r) => .ok r.bor
  | _ => .no
theorem snd_var {K : PySem.W.Frag} {i : Nat} : SndE K ca W (tVar i) (cV i) := by
  intro B F env σ H Q st p
  unfold cV at p
  split at p
  · rename_i r e
    obtain ⟨v, e1, h⟩ := st.sl i r e
    refine ⟨v, e1, p F H v (Grow.refl st.cfg) ?_⟩
    cases r with
    | ol xs => exact h.bor
    | od xs => exact h.bor
    | ot xs => exact h.bor
    | ob me x fs => exact h.bor
    | _ => exact h
  · exact p.elim
theorem vv (i : Nat) {x : Str} {pos : Pos} (hN : X.N[i]? = some x := by rfl) (hv : Vis X.env.scope x := by first | exact Or.inl rfl | exact Or.inr (Or.inl rfl) | exact Or.inr (Or.inr rfl)) (hd : (x == ("__debug__" : Str)) = false := by decide)
    (hcd : (x == ("__classdict__" : Str)) = false := by decide) : VE ca W X (.Name x pos) (cV i) := ⟨_, pe_var hN hv hd hcd, snd_var⟩
/-- a constant of the module: an int, a text -/
theorem ve_gint {x : Str} {i : Int} {t : Tok} {pos : Pos} (hg : Gl X x) (hm : X.mg x = some (.int i t)) (hd : (x == ("__debug__" : Str)) = false := by decide) : VE ca W X (.Name x pos) (cC (.int i)) :=
  ⟨_, pe_glob hg hm (v := .int i) ⟨t, rfl⟩ hd, fun _ _ _ _ _ _ st p => p _ _ _ (Grow.refl st.cfg) (.int i)⟩
theorem ve_gstr {x y : Str} {t : Tok} {pos : Pos} (hg : Gl X x) (hm : X.mg x = some (.str y t)) (hd : (x == ("__debug__" : Str)) = false := by decide) : VE ca W X (.Name x pos) (cC (.str y)) :=
  ⟨_, pe_glob hg hm (v := .str y) ⟨t, rfl⟩ hd, fun _ _ _ _ _ _ st p => p _ _ _ (Grow.refl st.cfg) (.str y)⟩

/-! ### operators by their values -/
def Op2S (K : PySem.W.Frag) (ca : CA) (r : R2) (g : RV → RV → Rs RV) : Prop := ∀ (W : WX) σ F0 H0 F H v1 v2 a b Q, Grow F0 H0 F H → RVok K H0 F H v1 a → RVok K H0 F H v2 b → PostE K ca W σ F0 H0 Q (g a b) → r v1 v2 H Q
def Op1S (K : PySem.W.Frag) (ca : CA) (r : V → Hp → VK → Prop) (g : RV → Rs RV) : Prop := ∀ (W : WX) σ F0 H0 F H v a Q, Grow F0 H0 F H → RVok K H0 F H v a → PostE K ca W σ F0 H0 Q (g a) → r v H Q
def CaS (K : PySem.W.Frag) (ca : CA) (r : List V → Hp → VK → Prop) (g : List RV → Rs RV) : Prop := ∀ (W : WX) σ F0 H0 F H vs as Q, Grow F0 H0 F H → Paired (fun v a => RVok K H0 F H v a) vs as → PostE K ca W σ F0 H0 Q (g as) → r vs H Q
def c2 (g : RV → RV → Rs RV) (fa fb : VEnv → Rs RV) : VEnv → Rs RV := fun env => (fa env).bind fun x => (fb env).bind fun y => g x y
def c1 (g : RV → Rs RV) (fa : VEnv → Rs RV) : VEnv → Rs RV := fun env => (fa env).bind g
theorem snd_op2 {K : PySem.W.Frag} {r : R2} {g : RV → RV → Rs RV} {ta tb : TE} (hr : Op2S K ca r g) (sa : SndE K ca W ta fa) (sb : SndE K ca W tb fb) : SndE K ca W (tOp r ta tb) (c2 g fa fb) := by
  intro B F env σ H Q st p
  show ta σ H fun x H1 => tb σ H1 fun y H2 => r x y H2 Q
  refine seqE (PostE K ca W σ F H Q) sa st p (fun _ _ h => h) (fun h => h) fun x F1 H1 v1 p1 g1 q1 => ?_
  refine seqE (PostE K ca W σ F H Q) sb (st.grow g1) p1 (fun _ _ h => PostX.mono g1 h) (fun h => h) fun y F2 H2 v2 p2 g2 q2 => ?_
  exact hr W σ F H F2 H2 v1 v2 x y Q (g1.trans g2) (q1.grow g2) (q2.older g1.hh) p2
theorem snd_op1 {K : PySem.W.Frag} {r : V → Hp → VK → Prop} {g : RV → Rs RV} {ta : TE} (hr : Op1S K ca r g) (sa : SndE K ca W ta fa) : SndE K ca W (tUn r ta) (c1 g fa) := by
  intro B F env σ H Q st p
  show ta σ H fun x H1 => r x H1 Q
  refine seqE (PostE K ca W σ F H Q) sa st p (fun _ _ h => h) (fun h => h) fun x F1 H1 v1 p1 g1 q1 => ?_
  exact hr W σ F H F1 H1 v1 x Q g1 q1 p1
theorem ve_op {op : Operator} {r : R2} {g : RV → RV → Rs RV} (ho : OpR X (binaryOp op) r) (hr : Op2S X.K ca r g) (ha : VE ca W X a fa) (hb : VE ca W X b fb) : VE ca W X (.BinOp a op b pos) (c2 g fa fb) := by
  obtain ⟨ta, pa, sa⟩ := ha
  obtain ⟨tb, pb, sb⟩ := hb
  exact ⟨_, pe_op ho pa pb, snd_op2 hr sa sb⟩
theorem ve_un {op : UnaryOp} {r : V → Hp → VK → Prop} {g : RV → Rs RV} (ho : UnR X (unaryOp op) r) (hr : Op1S X.K ca r g) (ha : VE ca W X a fa) : VE ca W X (.UnaryOp op a pos) (c1 g fa) := by
  obtain ⟨ta, pa, sa⟩ := ha
  exact ⟨_, pe_un ho pa, snd_op1 hr sa⟩
theorem ve_ix {r : R2} {g : RV → RV → Rs RV} (ho : IxR X r) (hr : Op2S X.K ca r g) (ha : VE ca W X a fa) (hb : VE ca W X b fb) (hs : PlainIx b) : VE ca W X (.Subscript a b pos) (c2 g fa fb) := by
  obtain ⟨ta, pa, sa⟩ := ha
  obtain ⟨tb, pb, sb⟩ := hb
  exact ⟨_, pe_ix ho pa pb hs, snd_op2 hr sa sb⟩
end
end VL

namespace VL
open PySem PySem.Spec PyProof.Rows L2

/-! ## freezing -/
def RV.toD : RV → Option PyData
  | .d x => some x
  | .ol xs => some (.list xs)
  | _ => none
def allD : List RV → Option (List PyData)
  | [] => some []
  | r :: rs => r.toD.bind fun d => (allD rs).bind fun ds => some (d :: ds)
theorem allD_len : ∀ {rs : List RV} {ds : List PyData}, allD rs = some ds → ds.length = rs.length
  | [], ds, h => by simp [allD] at h; subst h; rfl
  | r :: rs, ds, h => by
    unfold allD at h
    cases e : r.toD with
    | none => rw [e] at h; simp at h
    | some d =>
      cases e2 : allD rs with
      | none => rw [e, e2] at h; simp at h
      | some es => rw [e, e2] at h; simp at h; subst h; simp [allD_len e2]
def Fz (K : PySem.W.Frag) (H0 F H : Hp) (v : V) (d : PyData) : Prop := Dq K F v d ∨ ∃ p ws xs, v = .ref p ∧ d = .list xs ∧ H0 p = none ∧ H p = some (.lst ws) ∧ DqA K F ws xs
theorem Fz.of {K : PySem.W.Frag} {H0 F H : Hp} {v : V} {r : RV} {d : PyData} (h : RVok K H0 F H v r) (e : r.toD = some d) : Fz K H0 F H v d := by
  cases r with
  | d x => cases e; exact .inl h
  | ol xs => cases e; obtain ⟨p, vs, e1, n0, f, hp, q⟩ := h; exact .inr ⟨p, vs, xs, e1, rfl, n0, hp, q⟩
  | _ => cases e
theorem Fz.ofs {K : PySem.W.Frag} {H0 F H : Hp} : ∀ {rs : List RV} {vs : List V} {ds : List PyData}, Paired (fun v r => RVok K H0 F H v r) vs rs → allD rs = some ds → Paired (fun v d => Fz K H0 F H v d) vs ds
  | [], _, ds, h, e => by cases h; simp [allD] at e; subst e; exact .nil
  | r :: rs, _, ds, h, e => by
    cases h with
    | cons h1 h2 =>
      unfold allD at e
      cases e1 : r.toD with
      | none => rw [e1] at e; simp at e
      | some d =>
        cases e2 : allD rs with
        | none => rw [e1, e2] at e; simp at e
        | some es => rw [e1, e2] at e; simp at e; subst e; exact .cons (Fz.of h1 e1) (Fz.ofs h2 e2)
theorem Fz.mono {K : PySem.W.Frag} {H0 F F' H : Hp} (e : Same F F') {v : V} {d : PyData} (h : Fz K H0 F H v d) : Fz K H0 F' H v d := by
  rcases h with h | ⟨p, ws, xs, e1, e2, n0, hp, q⟩
  · exact .inl (h.mono e)
  · exact .inr ⟨p, ws, xs, e1, e2, n0, hp, DqA.mono e _ _ q⟩
theorem frz {K : PySem.W.Frag} {F0 H0 F H : Hp} (g : Grow F0 H0 F H) {v : V} {d : PyData} (h : Fz K H0 F H v d) : ∃ F', Grow F0 H0 F' H ∧ Same F F' ∧ Dq K F' v d := by
  rcases h with h | ⟨p, ws, xs, rfl, rfl, n0, hp, q⟩
  · exact ⟨F, g, Same.refl _, h⟩
  · cases e : F p with
    | none =>
      have s : Same F (upd F p (.lst ws)) := fun b u k => by rw [upd_ne (ne_of_none k e)]; exact k
      exact ⟨_, g.freeze n0 e hp, s, .lst upd_same (DqA.mono s _ _ q)⟩
    | some o =>
      have := g.cfg.sub _ _ e
      rw [hp] at this
      cases this
      exact ⟨F, g, Same.refl _, .lst e q⟩
theorem frzs {K : PySem.W.Frag} {F0 H0 H : Hp} : ∀ {F : Hp} {vs : List V} {ds : List PyData}, Grow F0 H0 F H → Paired (fun v d => Fz K H0 F H v d) vs ds → ∃ F', Grow F0 H0 F' H ∧ Same F F' ∧ DqA K F' vs ds
  | F, _, _, g, .nil => ⟨F, g, Same.refl _, .nil⟩
  | F, _, _, g, .cons h1 h2 => by
    obtain ⟨F1, g1, s1, q1⟩ := frz g h1
    obtain ⟨F2, g2, s2, q2⟩ := frzs g1 (Paired.mapP h2 fun _ _ z => z.mono s1)
    exact ⟨F2, g2, s1.trans s2, .cons (q1.mono s2) q2⟩

section
variable {ca : CA} {W : WX} {X : Cx} {a b e : Expr} {es : List Expr} {fa fb : VEnv → Rs RV} {pos : Pos}
/-! ## argument lists, displays -/
def aN : VEnv → Rs (List RV) := fun _ => .ok []
def aC (f : VEnv → Rs RV) (g : VEnv → Rs (List RV)) : VEnv → Rs (List RV) := fun env => (f env).bind fun x => (g env).bind fun xs => .ok (x :: xs)
theorem va_nil : VA ca W X [] aN := ⟨_, pa_nil, fun _ _ _ _ _ _ st p => p _ _ _ (Grow.refl st.cfg) .nil⟩
theorem va_cons {f : VEnv → Rs RV} {g : VEnv → Rs (List RV)} (he : VE ca W X e f) (hr : VA ca W X es g) (hs : starEach (e :: es) X.env = (false, eval e X.env) :: starEach es X.env := by rfl) : VA ca W X (e :: es) (aC f g) := by
  obtain ⟨te, pe, se⟩ := he
  obtain ⟨tr, pr, sr⟩ := hr
  refine ⟨_, pa_cons pe pr hs, fun B F env σ H Q st p => ?_⟩
  show te σ H fun x H1 => tr σ H1 fun xs H2 => Q (x :: xs) H2
  refine seqE (PostA X.K ca W σ F H Q) se st p (fun _ _ h => h) (fun h => h) fun x F1 H1 v1 p1 g1 q1 => ?_
  refine seqA (PostA X.K ca W σ F H Q) sr (st.grow g1) p1 (fun _ _ h => PostX.mono g1 h) (fun h => h) fun xs F2 H2 vs p2 g2 q2 => ?_
  exact p2 F2 H2 (v1 :: vs) (g1.trans g2) (.cons (q1.grow g2) (paired_older g1.hh q2))
def rsO {α : Type} : Option α → Rs α
  | some a => .ok a
  | none => .no
@[simp] theorem rsO_some {α : Type} (a : α) : rsO (some a) = .ok a := rfl
@[simp] theorem rsO_none {α : Type} : rsO (none : Option α) = .no := rfl
def gTupl (rs : List RV) : Rs RV := (rsO (allD rs)).bind fun ds => if ds.length ≤ 1000 then .ok (.d (.tuple ds)) else .no
def gList (rs : List RV) : Rs RV := (rsO (allD rs)).bind fun ds => if ds.length ≤ 1000 then .ok (.ol ds) else .no
def cA (g : List RV → Rs RV) (f : VEnv → Rs (List RV)) : VEnv → Rs RV := fun env => (f env).bind g
theorem small_line {n : Nat} (h : n ≤ 1000) : n ≤ sizeLine := Nat.le_of_lt (small1000 h)
def tTupN (t : TA) : TE := fun σ H Q => t σ H fun xs H1 => xs.length ≤ sizeLine ∧ ∀ (o : Obj) p, o.dict = none → H1 p = none → Q (.ref p) (upd H1 p (.frz o (.tup xs)))
theorem pe_tupN {X : Cx} {es : List Expr} {x1} {pos : Pos} {t : TA} (ha : PA X es t) : PE X (.Tuple es x1 pos) (tTupN t) := by
  constructor
  intro pins s σ H Q I q0
  refine wpAny_Tuple_spliced (thn (ha.run pos pins s σ H _ I q0) fun us s2 ⟨xs, H2, I2, rv, hz, q2⟩ => ⟨by rw [← rv.length]; exact hz, ?_⟩)
  have nn : H2 s2.heap.objs.size = none := I2.hok.fresh (Nat.le_refl _)
  refine ⟨.ref s2.heap.objs.size, upd H2 s2.heap.objs.size (.frz { cls := .type "tuple", data := .seq us.toArray } (.tup xs)), I2.laid (t' := s2.toks) (fun _ _ e => Heap.get?_push_of_some _ e) (Nat.le_refl _) ?_, rfl, q2 _ _ rfl nn⟩
  exact ⟨Heap.get?_push_size _ rfl, hz, us, rv, ⟨_, Heap.get?_push_size _ rfl, rfl, _, rfl⟩⟩
theorem ve_tup {x1} {f : VEnv → Rs (List RV)} (h : VA ca W X es f) : VE ca W X (.Tuple es x1 pos) (cA gTupl f) := by
  obtain ⟨t, pa, sa⟩ := h
  refine ⟨_, pe_tupN pa, fun B F env σ H Q st p => ?_⟩
  show t σ H fun xs H1 => xs.length ≤ sizeLine ∧ ∀ (o : Obj) p, o.dict = none → H1 p = none → Q (.ref p) (upd H1 p (.frz o (.tup xs)))
  refine seqA (PostE X.K ca W σ F H Q) sa st p (fun _ _ h => h) (fun h => h) fun rs F1 H1 vs p1 g1 q1 => ?_
  unfold gTupl at p1
  cases e : allD rs with
  | none => rw [e] at p1; exact p1.elim
  | some ds =>
    rw [e] at p1
    simp only [rsO_some, Rs.bind_ok] at p1
    split at p1
    · rename_i hz
      obtain ⟨F2, g2, s2, q2⟩ := frzs g1 (Fz.ofs q1 e)
      refine ⟨by rw [q2.length]; exact small_line hz, fun o a no n => ?_⟩
      have g3 := Grow.newF g2.cfg (.frz o (.tup vs)) n
      exact p1 _ _ _ (g2.trans g3) (.tup (.frz no upd_same) (DqA.mono g3.ff _ _ q2))
    · exact p1.elim
theorem ve_lst {f : VEnv → Rs (List RV)} (h : VA ca W X es f) : VE ca W X (.List es pos) (cA gList f) := by
  obtain ⟨t, pa, sa⟩ := h
  refine ⟨_, pe_lst pa, fun B F env σ H Q st p => ?_⟩
  show t σ H fun xs H1 => xs.length ≤ sizeLine ∧ ∀ p, H1 p = none → Q (.ref p) (upd H1 p (.lst xs))
  refine seqA (PostE X.K ca W σ F H Q) sa st p (fun _ _ h => h) (fun h => h) fun rs F1 H1 vs p1 g1 q1 => ?_
  unfold gList at p1
  cases e : allD rs with
  | none => rw [e] at p1; exact p1.elim
  | some ds =>
    rw [e] at p1
    simp only [rsO_some, Rs.bind_ok] at p1
    split at p1
    · rename_i hz
      obtain ⟨F2, g2, s2, q2⟩ := frzs g1 (Fz.ofs q1 e)
      refine ⟨by rw [q2.length]; exact small_line hz, fun a n => ?_⟩
      have g3 := Grow.newO g2.cfg (.lst vs) n (fun _ z => by cases z)
      exact p1 _ _ _ (g2.trans g3) ⟨a, vs, rfl, none_n g2.hh n, same_none g2.cfg.sub n, upd_same, q2⟩
    · exact p1.elim

/-! ## comparisons and tests -/
theorem ve_cmp {op : CmpOp} {r : R2} {g : RV → RV → Rs RV} (ho : OpR X (compareOp op) r) (hr : Op2S X.K ca r g) (ha : VE ca W X a fa) (hb : VE ca W X b fb) (hm : behindInMarks op b = false) : VE ca W X (.Compare a [op] [b] pos) (c2 g fa fb) := by
  obtain ⟨ta, pa, sa⟩ := ha
  obtain ⟨tb, pb, sb⟩ := hb
  exact ⟨_, pe_cmpR ho pa pb hm, snd_op2 hr sa sb⟩
/-- a value that is True or False -/
def asB : RV → Rs Bool
  | .d (.bool b) => .ok b
  | _ => .no
def cB (f : VEnv → Rs RV) : VEnv → Rs Bool := fun env => (f env).bind asB
theorem snd_test {K : PySem.W.Frag} {t : TE} {f : VEnv → Rs RV} (s : SndE K ca W t f) : SndT K ca W (tTest t) (cB f) := by
  intro B F env σ H Q st p
  show t σ H fun x H' => ∃ k, x = .bl k ∧ Q k H'
  refine seqE (PostB K ca W σ F H Q) s st p (fun _ _ h => h) (fun h => h) fun x F1 H1 v1 p1 g1 q1 => ?_
  unfold asB at p1
  split at p1
  · rename_i k
    cases q1
    exact ⟨k, rfl, p1 _ _ g1⟩
  · exact p1.elim
theorem vt_cmp {op : CmpOp} {r : R2} {g : RV → RV → Rs RV} (ho : OpR X (compareOp op) r) (hr : Op2S X.K ca r g) (ha : VE ca W X a fa) (hb : VE ca W X b fb) (hm : behindInMarks op b = false) : VT ca W X (.Compare a [op] [b] pos) (cB (c2 g fa fb)) := by
  obtain ⟨ta, pa, sa⟩ := ha
  obtain ⟨tb, pb, sb⟩ := hb
  exact ⟨_, pt_cmpR ho pa pb hm, snd_test (snd_op2 hr sa sb)⟩
theorem vt_val {f : VEnv → Rs RV} (h : VE ca W X e f) (he : ∀ whole, isTrue e X.env whole = (do let v ← whole; standAt e.pos; holding [v] (truthy v)) := by intro _; rfl) : VT ca W X e (cB f) := by
  obtain ⟨t, pe, se⟩ := h
  exact ⟨_, pt_val pe he, snd_test se⟩
def bNot (f : VEnv → Rs Bool) : VEnv → Rs Bool := fun env => (f env).bind fun b => .ok (!b)
def bAnd (f g : VEnv → Rs Bool) : VEnv → Rs Bool := fun env => (f env).bind fun b => if b = true then g env else .ok false
def bOr (f g : VEnv → Rs Bool) : VEnv → Rs Bool := fun env => (f env).bind fun b => if b = true then .ok true else g env
theorem vt_not {f : VEnv → Rs Bool} (h : VT ca W X a f) : VT ca W X (.UnaryOp .Not a pos) (bNot f) := by
  obtain ⟨t, pe, se⟩ := h
  refine ⟨_, pt_not pe, fun B F env σ H Q st p => ?_⟩
  show t σ H fun c H1 => Q (!c) H1
  exact seqT (PostB X.K ca W σ F H Q) se st p (fun _ _ h => h) (fun h => h) fun x F1 H1 p1 g1 => p1 _ _ g1
theorem vw_and1 {f : VEnv → Rs Bool} (h : VT ca W X a f) : VW ca W X (.BoolOp .And [a] pos) f := by
  obtain ⟨t, pe, se⟩ := h
  exact ⟨_, pw_and1 pe, se⟩
theorem vw_or1 {f : VEnv → Rs Bool} (h : VT ca W X a f) : VW ca W X (.BoolOp .Or [a] pos) f := by
  obtain ⟨t, pe, se⟩ := h
  exact ⟨_, pw_or1 pe, se⟩
theorem vw_and {rest : List Expr} {f g : VEnv → Rs Bool} (h : VT ca W X a f) (h2 : VW ca W X (.BoolOp .And (b :: rest) pos) g) : VW ca W X (.BoolOp .And (a :: b :: rest) pos) (bAnd f g) := by
  obtain ⟨t, pe, se⟩ := h
  obtain ⟨u, pu, su⟩ := h2
  refine ⟨_, pw_and pe pu, fun B F env σ H Q st p => ?_⟩
  show t σ H fun c H1 => if c = true then u σ H1 Q else Q false H1
  refine seqT (PostB X.K ca W σ F H Q) se st p (fun _ _ h => h) (fun h => h) fun x F1 H1 p1 g1 => ?_
  cases x with
  | true => rw [if_pos rfl]; rw [if_pos rfl] at p1; exact su B F1 env σ H1 Q (st.grow g1) (PostB.mono g1 p1)
  | false => rw [if_neg Bool.false_ne_true]; rw [if_neg Bool.false_ne_true] at p1; exact p1 _ _ g1
theorem vw_or {rest : List Expr} {f g : VEnv → Rs Bool} (h : VT ca W X a f) (h2 : VW ca W X (.BoolOp .Or (b :: rest) pos) g) : VW ca W X (.BoolOp .Or (a :: b :: rest) pos) (bOr f g) := by
  obtain ⟨t, pe, se⟩ := h
  obtain ⟨u, pu, su⟩ := h2
  refine ⟨_, pw_or pe pu, fun B F env σ H Q st p => ?_⟩
  show t σ H fun c H1 => if c = true then Q true H1 else u σ H1 Q
  refine seqT (PostB X.K ca W σ F H Q) se st p (fun _ _ h => h) (fun h => h) fun x F1 H1 p1 g1 => ?_
  cases x with
  | false => rw [if_neg Bool.false_ne_true]; rw [if_neg Bool.false_ne_true] at p1; exact su B F1 env σ H1 Q (st.grow g1) (PostB.mono g1 p1)
  | true => rw [if_pos rfl]; rw [if_pos rfl] at p1; exact p1 _ _ g1
theorem vw {f : VEnv → Rs Bool} (h : VW ca W X e f) : VT ca W X e f := by
  obtain ⟨t, pe, se⟩ := h
  exact ⟨_, pe.pt, se⟩
/-! and, or, not as values (truth values) -/
def vAnd (f g : VEnv → Rs RV) : VEnv → Rs RV := fun env => (cB f env).bind fun b => if b = true then g env else .ok (.d (.bool false))
def vOr (f g : VEnv → Rs RV) : VEnv → Rs RV := fun env => (cB f env).bind fun b => if b = true then .ok (.d (.bool true)) else g env
def vNot (f : VEnv → Rs RV) : VEnv → Rs RV := fun env => (cB f env).bind fun b => .ok (.d (.bool (!b)))
theorem ve_one {op} {f : VEnv → Rs RV} (h : VE ca W X a f) : VE ca W X (.BoolOp op [a] pos) f := by
  obtain ⟨t, pe, se⟩ := h
  exact ⟨_, pe_one pe, se⟩
theorem seqBE {K : PySem.W.Frag} {B : Base} {F H : Hp} {env : VEnv} {σ : L2.St} {t : TE} {f : VEnv → Rs RV} {Q : VK} {α : Type} {k : Bool → Rs α} (P : Rs α → Prop) (s : SndE K ca W t f) (st : StOk K ca B F env σ H)
    (post : P ((cB f env).bind k)) (hx : ∀ c fs, P (.ex c fs) → PostX K ca W σ F H c fs) (hn : ¬ P .no)
    (h : ∀ r F1 H1, P (k r) → Grow F H F1 H1 → Q (.bl r) H1) : t σ H Q := by
  refine s B F env σ H Q st ?_
  unfold cB at post
  cases e : f env with
  | ok r =>
    rw [e] at post
    intro F' H' v g q
    cases r with
    | d x =>
      cases x with
      | bool b => cases q; exact h b F' H' post g
      | _ => exact absurd post hn
    | _ => exact absurd post hn
  | ex c fs => rw [e] at post; exact hx c fs post
  | no => rw [e] at post; exact hn post
theorem ve_and {rest : List Expr} {f g : VEnv → Rs RV} (h : VE ca W X a f) (h2 : VE ca W X (.BoolOp .And (b :: rest) pos) g) : VE ca W X (.BoolOp .And (a :: b :: rest) pos) (vAnd f g) := by
  obtain ⟨t, pe, se⟩ := h
  obtain ⟨u, pu, su⟩ := h2
  refine ⟨_, pe_and pe pu, fun B F env σ H Q st p => ?_⟩
  show t σ H fun x H1 => ∃ c, x = .bl c ∧ if c = true then u σ H1 Q else Q (.bl false) H1
  refine seqBE (PostE X.K ca W σ F H Q) se st p (fun _ _ h => h) (fun h => h) fun x F1 H1 p1 g1 => ⟨x, rfl, ?_⟩
  cases x with
  | true => rw [if_pos rfl]; rw [if_pos rfl] at p1; exact su B F1 env σ H1 Q (st.grow g1) (PostE.mono g1 p1)
  | false => rw [if_neg Bool.false_ne_true]; rw [if_neg Bool.false_ne_true] at p1; exact p1 _ _ _ g1 (.bl false)
theorem ve_or {rest : List Expr} {f g : VEnv → Rs RV} (h : VE ca W X a f) (h2 : VE ca W X (.BoolOp .Or (b :: rest) pos) g) : VE ca W X (.BoolOp .Or (a :: b :: rest) pos) (vOr f g) := by
  obtain ⟨t, pe, se⟩ := h
  obtain ⟨u, pu, su⟩ := h2
  refine ⟨_, pe_or pe pu, fun B F env σ H Q st p => ?_⟩
  show t σ H fun x H1 => ∃ c, x = .bl c ∧ if c = true then Q (.bl true) H1 else u σ H1 Q
  refine seqBE (PostE X.K ca W σ F H Q) se st p (fun _ _ h => h) (fun h => h) fun x F1 H1 p1 g1 => ⟨x, rfl, ?_⟩
  cases x with
  | false => rw [if_neg Bool.false_ne_true]; rw [if_neg Bool.false_ne_true] at p1; exact su B F1 env σ H1 Q (st.grow g1) (PostE.mono g1 p1)
  | true => rw [if_pos rfl]; rw [if_pos rfl] at p1; exact p1 _ _ _ g1 (.bl true)
theorem ve_not {f : VEnv → Rs RV} (h : VE ca W X a f) : VE ca W X (.UnaryOp .Not a pos) (vNot f) := by
  obtain ⟨t, pe, se⟩ := h
  refine ⟨_, pe_not pe, fun B F env σ H Q st p => ?_⟩
  show t σ H fun x H1 => ∃ c, x = .bl c ∧ Q (.bl (!c)) H1
  exact seqBE (PostE X.K ca W σ F H Q) se st p (fun _ _ h => h) (fun h => h) fun x F1 H1 p1 g1 => ⟨x, rfl, p1 _ _ _ g1 (.bl _)⟩
def vIf (t : VEnv → Rs Bool) (f g : VEnv → Rs RV) : VEnv → Rs RV := fun env => (t env).bind fun b => if b = true then f env else g env
theorem ve_ifExp {c : Expr} {tc : VEnv → Rs Bool} (hc : VT ca W X c tc) (ha : VE ca W X a fa) (hb : VE ca W X b fb) : VE ca W X (.IfExp c a b pos) (vIf tc fa fb) := by
  obtain ⟨t, pe, se⟩ := hc
  obtain ⟨ta, pa, sa⟩ := ha
  obtain ⟨tb, pb, sb⟩ := hb
  refine ⟨_, pe_ifExp pe pa pb, fun B F env σ H Q st p => ?_⟩
  show t σ H fun c H1 => if c = true then ta σ H1 Q else tb σ H1 Q
  refine seqT (PostE X.K ca W σ F H Q) se st p (fun _ _ h => h) (fun h => h) fun x F1 H1 p1 g1 => ?_
  cases x with
  | true => rw [if_pos rfl]; rw [if_pos rfl] at p1; exact sa B F1 env σ H1 Q (st.grow g1) (PostE.mono g1 p1)
  | false => rw [if_neg Bool.false_ne_true]; rw [if_neg Bool.false_ne_true] at p1; exact sb B F1 env σ H1 Q (st.grow g1) (PostE.mono g1 p1)

/-! ## calls -/
theorem snd_call {K : PySem.W.Frag} {r : List V → Hp → VK → Prop} {g : List RV → Rs RV} {t : TA} {f : VEnv → Rs (List RV)} (hr : CaS K ca r g) (sa : SndA K ca W t f) : SndE K ca W (tCB r t) (cA g f) := by
  intro B F env σ H Q st p
  show t σ H fun vs H1 => r vs H1 Q
  refine seqA (PostE K ca W σ F H Q) sa st p (fun _ _ h => h) (fun h => h) fun rs F1 H1 vs p1 g1 q1 => ?_
  exact hr W σ F H F1 H1 vs rs Q g1 q1 p1
theorem ve_callB {id : String} {x : Str} {p : Pos} {r : List V → Hp → VK → Prop} {g : List RV → Rs RV} {f : VEnv → Rs (List RV)} (hc : CallR X (.builtin id) r) (hr : CaS X.K ca r g) (hg : Gl X x) (hm : X.mg x = none) (hv : bootBuiltins x = some (.builtin id)) (ha : VA ca W X (e :: es) f) (hn : x ≠ "__name__" := by decide) (hdb : (x == ("__debug__" : Str)) = false := by decide)
    (he : starEach (e :: es) X.env = (false, eval e X.env) :: starEach es X.env := by rfl) (hpl : (backTo pos (starEach es X.env)).any (·.1) = false := by rfl) : VE ca W X (.Call (.Name x p) (e :: es) [] pos) (cA g f) := by
  obtain ⟨t, pa, sa⟩ := ha
  exact ⟨_, pe_callB hc hg hm hv pa hn hdb he hpl, snd_call hr sa⟩
theorem ve_callTy {T : String} {x : Str} {p : Pos} {r : List V → Hp → VK → Prop} {g : List RV → Rs RV} {f : VEnv → Rs (List RV)} (hc : CallR X (.type T) r) (hr : CaS X.K ca r g) (hg : Gl X x) (hm : X.mg x = none) (hv : bootBuiltins x = some (.type T)) (ha : VA ca W X (e :: es) f) (hn : x ≠ "__name__" := by decide) (hdb : (x == ("__debug__" : Str)) = false := by decide)
    (he : starEach (e :: es) X.env = (false, eval e X.env) :: starEach es X.env := by rfl) (hpl : (backTo pos (starEach es X.env)).any (·.1) = false := by rfl) : VE ca W X (.Call (.Name x p) (e :: es) [] pos) (cA g f) := by
  obtain ⟨t, pa, sa⟩ := ha
  exact ⟨_, pe_callTy hc hg hm hv pa hn hdb he hpl, snd_call hr sa⟩
end
end VL

namespace VL
open PySem PySem.Spec PyProof.Rows L2

/-! ## statements -/
inductive Out where
  | nx (env : VEnv) | rt (r : RV) | bk (env : VEnv) | ct (env : VEnv)
  | ex (c : Nat) (fs : List (Str × PyData)) (env : VEnv)
  /-- a return that tells what has become of self -/
  | rm (o : Option (Str × List (Str × FV))) (d : PyData)
  | no
def Out.then : Out → (VEnv → Out) → Out
  | .nx env, f => f env
  | o, _ => o
@[simp] theorem Out.then_nx (env f) : (Out.nx env).then f = f env := rfl
@[simp] theorem Out.then_rt (r f) : (Out.rt r).then f = .rt r := rfl
@[simp] theorem Out.then_bk (r f) : (Out.bk r).then f = .bk r := rfl
@[simp] theorem Out.then_ct (r f) : (Out.ct r).then f = .ct r := rfl
@[simp] theorem Out.then_ex (c fs e f) : (Out.ex c fs e).then f = .ex c fs e := rfl
@[simp] theorem Out.then_rm (o d f) : (Out.rm o d).then f = .rm o d := rfl
@[simp] theorem Out.then_no (f) : Out.no.then f = .no := rfl
def Rs.out {α : Type} (m : Rs α) (env : VEnv) (f : α → Out) : Out := match m with
  | .ok a => f a
  | .ex c fs => .ex c fs env
  | .no => .no
@[simp] theorem Rs.out_ok {α : Type} (a : α) (env f) : (Rs.ok a).out env f = f a := rfl
@[simp] theorem Rs.out_ex {α : Type} (c fs env) (f : α → Out) : (Rs.ex c fs : Rs α).out env f = .ex c fs env := rfl
@[simp] theorem Rs.out_no {α : Type} (env) (f : α → Out) : (Rs.no : Rs α).out env f = .no := rfl

def MeOk (K : PySem.W.Frag) (B : Base) (F H : Hp) : Option (Str × List (Str × FV)) → Prop
  | some (x, fs) => ObOk K B.H F H B.me x fs
  | none => True
section
variable (K : PySem.W.Frag) (ca : CA) (W : WX) (B : Base) (F0 : Hp)
def PostS (D : Ends) : Out → Prop
  | .nx env => ∀ F σ H, Same F0 F → StOk K ca B F env σ H → D.nx σ H
  | .bk env => ∀ F σ H, Same F0 F → StOk K ca B F env σ H → D.bk σ H
  | .ct env => ∀ F σ H, Same F0 F → StOk K ca B F env σ H → D.ct σ H
  | .rt r => ∀ F H v, Grow B.F B.H F H → RVok K B.H F H v r → D.rt v H
  | .ex c fs env => ∀ F σ H cls dx, Same F0 F → StOk K ca B F env σ H → ExOk K ca F H cls dx c fs → W cls dx σ H
  | .rm o d => ∀ F H v, Grow B.F B.H F H → Dq K F v d → TabOk ca.T F H → MeOk K B F H o → D.rt v H
  | .no => False
end
theorem PostS.mono {K : PySem.W.Frag} {ca : CA} {W : WX} {B : Base} {F0 F1 : Hp} {D : Ends} {o : Out} (e : Same F0 F1) (h : PostS K ca W B F0 D o) : PostS K ca W B F1 D o := by
  cases o with
  | nx env => exact fun F σ H s st => h F σ H (e.trans s) st
  | bk env => exact fun F σ H s st => h F σ H (e.trans s) st
  | ct env => exact fun F σ H s st => h F σ H (e.trans s) st
  | rt r => exact h
  | rm o d => exact h
  | ex c fs env => exact fun F σ H cls dx s st => h F σ H cls dx (e.trans s) st
  | no => exact h
def SndS (K : PySem.W.Frag) (ca : CA) (W : WX) (t : TS) (f : VEnv → Out) : Prop := ∀ B F env σ H D, StOk K ca B F env σ H → PostS K ca W B F D (f env) → t D σ H
structure VS (ca : CA) (W : WX) (X : Cx) (st : Stmt) (f : VEnv → Out) : Prop where
  ex : ∃ t, PS X st t ∧ SndS X.K ca W t f
structure VSs (ca : CA) (W : WX) (X : Cx) (st : List Stmt) (f : VEnv → Out) : Prop where
  ex : ∃ t, PSs X st t ∧ SndS X.K ca W t f

section
variable {K : PySem.W.Frag} {ca : CA} {W : WX} {B : Base} {F H : Hp} {env : VEnv} {σ : L2.St}
theorem exOut {c : Nat} {fs : List (Str × PyData)} {D : Ends} (st : StOk K ca B F env σ H) (h : PostS K ca W B F D (.ex c fs env)) : PostX K ca W σ F H c fs :=
  fun F' H' cls dx g e => h F' σ H' cls dx g.ff (st.grow g) e
theorem outE {t : TE} {f : VEnv → Rs RV} {Q : VK} {D : Ends} {k : RV → Out} (s : SndE K ca W t f) (st : StOk K ca B F env σ H)
    (post : PostS K ca W B F D ((f env).out env k)) (h : ∀ r F1 H1 v, PostS K ca W B F1 D (k r) → Grow F H F1 H1 → RVok K H F1 H1 v r → Q v H1) : t σ H Q := by
  refine s B F env σ H Q st ?_
  cases e : f env with
  | ok r => rw [e] at post; exact fun F' H' v g q => h r F' H' v (PostS.mono g.ff post) g q
  | ex c fs => rw [e] at post; exact exOut st post
  | no => rw [e] at post; exact post
theorem outT {t : TT} {f : VEnv → Rs Bool} {Q : Bool → Hp → Prop} {D : Ends} {k : Bool → Out} (s : SndT K ca W t f) (st : StOk K ca B F env σ H)
    (post : PostS K ca W B F D ((f env).out env k)) (h : ∀ r F1 H1, PostS K ca W B F1 D (k r) → Grow F H F1 H1 → Q r H1) : t σ H Q := by
  refine s B F env σ H Q st ?_
  cases e : f env with
  | ok r => rw [e] at post; exact fun F' H' g => h r F' H' (PostS.mono g.ff post) g
  | ex c fs => rw [e] at post; exact exOut st post
  | no => rw [e] at post; exact post
theorem own_some {K : PySem.W.Frag} {H0 F H : Hp} {p : Addr} {r : RV} (o : r.own = true) (h : RVok K H0 F H (.ref p) r) : H0 p = none ∧ F p = none ∧ ∃ u, H p = some u := by
  cases r with
  | ol xs => obtain ⟨a, vs, z, n, f, hp, _⟩ := h; cases z; exact ⟨n, f, _, hp⟩
  | od xs => obtain ⟨a, vs, z, n, f, hp, _⟩ := h; cases z; exact ⟨n, f, _, hp⟩
  | ot xs => obtain ⟨a, vs, z, n, f, hp, _⟩ := h; cases z; exact ⟨n, f, _, hp⟩
  | ob me x fs => obtain ⟨a, z, C, dx, vs, _, hp, n, f, _⟩ := h; cases z; exact ⟨n, f, _, hp⟩
  | _ => cases o
theorem set_at {env : VEnv} {σ : L2.St} (hl : env.length = σ.length) {i j : Nat} (hi : i < env.length) {r r' : RV} {v : V} (e : (env.set i (some r))[j]? = some (some r')) :
    (j = i ∧ r' = r ∧ (σ.set i (some v))[j]? = some (some v)) ∨ (j ≠ i ∧ env[j]? = some (some r') ∧ (σ.set i (some v))[j]? = σ[j]?) := by
  by_cases h : i = j
  · subst h
    rw [List.getElem?_set_self hi] at e
    cases e
    exact .inl ⟨rfl, rfl, List.getElem?_set_self (by omega)⟩
  · rw [List.getElem?_set_ne h] at e
    exact .inr ⟨Ne.symm h, e, List.getElem?_set_ne h⟩
/-- a slot gets plain data -/
theorem StOk.rgPut0 (st : StOk K ca B F env σ H) {i : Nat} (hi : i < env.length) {v : V} {r : RV} (ho : r.own = false) (hb : r.isB = false) : Rg ca B F (env.set i (some r)) (σ.set i (some v)) H := by
  have at_ := fun {j : Nat} {r' : RV} (e : (env.set i (some r))[j]? = some (some r')) => set_at (v := v) st.len hi e
  refine ⟨st.rg.tb, fun a b p q me x fs r' e z hq e' o' => ?_, fun a b p p' q me me' x x' fs fs' ab e z e' z' hq => ?_, fun a p q x fs e z hq => ?_, fun a x fs e => ?_⟩
  · rcases at_ e with ⟨_, rfl, _⟩ | ⟨_, e1, z1⟩
    · cases ho
    · rcases at_ e' with ⟨_, rfl, _⟩ | ⟨_, e2, z2⟩
      · rw [ho] at o'; cases o'
      · rw [z1] at z; rw [z2]; exact st.rg.o1 a b p q me x fs r' e1 z hq e2 o'
  · rcases at_ e with ⟨_, rfl, _⟩ | ⟨_, e1, z1⟩
    · cases ho
    · rcases at_ e' with ⟨_, rfl, _⟩ | ⟨_, e2, z2⟩
      · cases ho
      · rw [z1] at z; rw [z2] at z'; exact st.rg.o2 a b p p' q me me' x x' fs fs' ab e1 z e2 z' hq
  · rcases at_ e with ⟨_, rfl, _⟩ | ⟨_, e1, z1⟩
    · cases hb
    · rw [z1] at z; exact st.rg.o3 a p q x fs e1 z hq
  · rcases at_ e with ⟨_, rfl, _⟩ | ⟨_, e1, z1⟩
    · cases ho
    · rw [z1]; exact st.rg.me a x fs e1
/-- a slot gets a value of its own or plain data -/
theorem StOk.put (st : StOk K ca B F env σ H) {i : Nat} (hi : i < env.length) {v : V} {r : RV} (q : RVok K B.H F H v r) (hb : r.isB = false) (rg : Rg ca B F (env.set i (some r)) (σ.set i (some v)) H)
    (hd : r.own = true → ∀ (j : Nat) (r' : RV) (p : Addr), j ≠ i → env[j]? = some (some r') → r'.own = true → v = .ref p → σ[j]? ≠ some (some (.ref p))) : StOk K ca B F (env.set i (some r)) (σ.set i (some v)) H := by
  have hi' : i < σ.length := by rw [← st.len]; exact hi
  refine ⟨st.gr, by simp [st.len], fun j r1 e => ?_, fun j r1 p e o s => ?_, fun j k r1 r2 p jk e1 e2 o1 o2 s1 s2 => ?_, rg⟩
  · by_cases h : i = j
    · subst h
      rw [List.getElem?_set_self hi] at e
      cases e
      exact ⟨v, by rw [List.getElem?_set_self hi'], q⟩
    · rw [List.getElem?_set_ne h] at e
      obtain ⟨w, e1, q1⟩ := st.sl j r1 e
      exact ⟨w, by rw [List.getElem?_set_ne h]; exact e1, q1⟩
  · by_cases h : i = j
    · subst h
      rw [List.getElem?_set_self hi] at e
      cases e
      rw [hb] at o; cases o
    · rw [List.getElem?_set_ne h] at e s
      exact st.bo j r1 p e o s
  · by_cases h1 : i = j
    · subst h1
      rw [List.getElem?_set_self hi] at e1
      rw [List.getElem?_set_self hi'] at s1
      rw [List.getElem?_set_ne jk] at e2 s2
      cases e1
      exact hd o1 k r2 p (Ne.symm jk) e2 o2 (Option.some.inj (Option.some.inj s1)) s2
    · rw [List.getElem?_set_ne h1] at e1 s1
      by_cases h2 : i = k
      · subst h2
        rw [List.getElem?_set_self hi] at e2
        rw [List.getElem?_set_self hi'] at s2
        cases e2
        exact hd o2 j r1 p (Ne.symm h1) e1 o1 (Option.some.inj (Option.some.inj s2)) s1
      · rw [List.getElem?_set_ne h2] at e2 s2
        exact st.dis j k r1 r2 p jk e1 e2 o1 o2 s1 s2
def RV.notMe : RV → Bool
  | .ob true _ _ => false
  | _ => true
/-- a slot gets what is new over an earlier heap -/
theorem StOk.rgNew {F1 H1 : Hp} (st : StOk K ca B F env σ H) (g : Grow F H F1 H1) {i : Nat} (hi : i < env.length) {v : V} {r : RV} (q : RVok K H F1 H1 v r) (hb : r.isB = false) (hm : r.notMe = true) : Rg ca B F1 (env.set i (some r)) (σ.set i (some v)) H1 := by
  have st1 := st.grow g
  have at_ := fun {j : Nat} {r' : RV} (e : (env.set i (some r))[j]? = some (some r')) => set_at (v := v) st.len hi e
  -- what is old is there; what is new was not
  have old1 : ∀ {j : Nat} {r' : RV} {p : Addr}, env[j]? = some (some r') → r'.own = true → σ[j]? = some (some (.ref p)) → ∃ u, H p = some u := fun {j r' p} e o z => by
    obtain ⟨w, e1, q1⟩ := st.sl j _ e
    rw [z] at e1
    cases e1
    exact (own_some o q1).2.2
  have old2 : ∀ {j : Nat} {p q : Addr} {me : Bool} {x : Str} {fs : List (Str × FV)}, env[j]? = some (some (.ob me x fs)) → σ[j]? = some (some (.ref p)) → q ∈ fla H1 p fs → ∃ u, H q = some u := fun {j p q me x fs} e z hq => by
    have h := st.obAt e z
    rw [fla_grow g.hh fs h.ins] at hq
    exact ⟨_, (h.at hq).2.2.choose_spec⟩
  have new1 : ∀ {p : Addr}, r.own = true → v = .ref p → H p = none := fun {p} o e => by
    subst e
    exact (own_some o q).1
  have new2 : ∀ {p q' : Addr} {me : Bool} {x : Str} {fs : List (Str × FV)}, r = .ob me x fs → v = .ref p → q' ∈ fla H1 p fs → H q' = none ∧ ∃ ws, H1 q' = some (.lst ws) := fun {p q' me x fs} er ev hq => by
    subst er; subst ev
    obtain ⟨p', z, h⟩ := q
    cases z
    exact ⟨(h.at hq).1, (h.at hq).2.2⟩
  have no : ∀ {q : Addr}, H q = none → (∃ u, H q = some u) → False := fun h ⟨u, e⟩ => by rw [h] at e; cases e
  refine ⟨st1.rg.tb, fun a b p q' me x fs r' e z hq e' o' => ?_, fun a b p p' q' me me' x x' fs fs' ab e z e' z' hq hq' => ?_, fun a p q' x fs e z hq => ?_, fun a x fs e => ?_⟩
  · rcases at_ e with ⟨ia, er, za⟩ | ⟨_, e1, z1⟩
    · rw [za] at z
      have ev : v = .ref p := Option.some.inj (Option.some.inj z)
      obtain ⟨n1, ws, hl⟩ := new2 er.symm ev hq
      rcases at_ e' with ⟨_, rfl, zb⟩ | ⟨_, e2, z2⟩
      · rw [zb, ev]
        intro w
        have w : p = q' := by injection w with w; injection w with w; injection w
        obtain ⟨p', z', C, dx, vs, _, hp, _⟩ := (er ▸ q : RVok K H F1 H1 v (.ob me x fs))
        rw [ev] at z'
        cases z'
        rw [w, hl] at hp
        cases hp
      · rw [z2]
        intro w
        exact no n1 (old1 e2 o' w)
    · rw [z1] at z
      have hs := old2 e1 z hq
      rcases at_ e' with ⟨_, rfl, zb⟩ | ⟨_, e2, z2⟩
      · rw [zb]
        intro w
        exact no (new1 o' (Option.some.inj (Option.some.inj w))) hs
      · rw [z2]; exact st1.rg.o1 a b p q' me x fs r' e1 z hq e2 o'
  · rcases at_ e with ⟨ia, er, za⟩ | ⟨_, e1, z1⟩
    · rw [za] at z
      have ev : v = .ref p := Option.some.inj (Option.some.inj z)
      obtain ⟨n1, ws, hl⟩ := new2 er.symm ev hq
      rcases at_ e' with ⟨ib, _, _⟩ | ⟨_, e2, z2⟩
      · exact ab (ia.trans ib.symm)
      · rw [z2] at z'
        exact no n1 (old2 e2 z' hq')
    · rw [z1] at z
      rcases at_ e' with ⟨ib, er, zb⟩ | ⟨_, e2, z2⟩
      · rw [zb] at z'
        exact no (new2 er.symm (Option.some.inj (Option.some.inj z')) hq').1 (old2 e1 z hq)
      · rw [z2] at z'
        exact st1.rg.o2 a b p p' q' me me' x x' fs fs' ab e1 z e2 z' hq hq'
  · rcases at_ e with ⟨_, rfl, _⟩ | ⟨_, e1, z1⟩
    · cases hb
    · rw [z1] at z; exact st1.rg.o3 a p q' x fs e1 z hq
  · rcases at_ e with ⟨_, rfl, _⟩ | ⟨_, e1, z1⟩
    · cases hm
    · rw [z1]; exact st1.rg.me a x fs e1
/-- a value that came out of an expression over this state -/
theorem StOk.putE {F1 H1 : Hp} (st : StOk K ca B F env σ H) (g : Grow F H F1 H1) {i : Nat} (hi : i < env.length) {v : V} {r : RV} (q : RVok K H F1 H1 v r) (hb : r.isB = false) (hm : r.notMe = true) : StOk K ca B F1 (env.set i (some r)) (σ.set i (some v)) H1 := by
  refine (st.grow g).put hi (q.older st.gr.hh) hb (st.rgNew g hi q hb hm) fun o j r' p ji e o' ev s => ?_
  obtain ⟨w, e1, q1⟩ := st.sl j r' e
  rw [s] at e1
  cases e1
  obtain ⟨_, _, ob, hp⟩ := own_some o' q1
  subst ev
  rw [(own_some o q).1] at hp
  cases hp
theorem StOk.put0 (st : StOk K ca B F env σ H) {i : Nat} (hi : i < env.length) {v : V} {r : RV} (q : RVok K B.H F H v r) (hb : r.isB = false) (ho : r.own = false) : StOk K ca B F (env.set i (some r)) (σ.set i (some v)) H :=
  st.put hi q hb (st.rgPut0 hi ho hb) fun z => by rw [ho] at z; cases z
theorem drop_at {env : VEnv} {i j : Nat} {r' : RV} (e : (env.set i none)[j]? = some (some r')) : j ≠ i ∧ env[j]? = some (some r') := by
  by_cases h : i = j
  · subst h
    by_cases hi : i < env.length
    · rw [List.getElem?_set_self hi] at e; cases e
    · rw [List.getElem?_eq_none (by simpa using hi)] at e; cases e
  · rw [List.getElem?_set_ne h] at e
    exact ⟨Ne.symm h, e⟩
/-- a slot forgotten -/
theorem StOk.drop (st : StOk K ca B F env σ H) (i : Nat) : StOk K ca B F (env.set i none) (σ.set i none) H := by
  have sg : ∀ {j : Nat}, j ≠ i → (σ.set i none)[j]? = σ[j]? := fun h => List.getElem?_set_ne (Ne.symm h)
  refine ⟨st.gr, by simp [st.len], fun j r1 e => ?_, fun j r1 p e o s => ?_, fun j k r1 r2 p jk e1 e2 o1 o2 s1 s2 => ?_, ⟨st.rg.tb, fun a b p q me x fs r' e z hq e' o' => ?_, fun a b p p' q me me' x x' fs fs' ab e z e' z' hq => ?_, fun a p q x fs e z hq => ?_, fun a x fs e => ?_⟩⟩
  · obtain ⟨h, e⟩ := drop_at e
    obtain ⟨w, e1, q1⟩ := st.sl j r1 e
    exact ⟨w, by rw [sg h]; exact e1, q1⟩
  · obtain ⟨h, e⟩ := drop_at e
    rw [sg h] at s
    exact st.bo j r1 p e o s
  · obtain ⟨h1, e1⟩ := drop_at e1
    obtain ⟨h2, e2⟩ := drop_at e2
    rw [sg h1] at s1
    rw [sg h2] at s2
    exact st.dis j k r1 r2 p jk e1 e2 o1 o2 s1 s2
  · obtain ⟨h1, e⟩ := drop_at e
    obtain ⟨h2, e'⟩ := drop_at e'
    rw [sg h1] at z
    rw [sg h2]
    exact st.rg.o1 a b p q me x fs r' e z hq e' o'
  · obtain ⟨h1, e⟩ := drop_at e
    obtain ⟨h2, e'⟩ := drop_at e'
    rw [sg h1] at z
    rw [sg h2] at z'
    exact st.rg.o2 a b p p' q me me' x x' fs fs' ab e z e' z' hq
  · obtain ⟨h1, e⟩ := drop_at e
    rw [sg h1] at z
    exact st.rg.o3 a p q x fs e z hq
  · obtain ⟨h1, e⟩ := drop_at e
    rw [sg h1]
    exact st.rg.me a x fs e
end

/-! ### freezing a slot's list -/
def fzE (i : Nat) (env : VEnv) : VEnv := match env[i]? with
  | some (some (.ol xs)) => env.set i (some (.d (.list xs)))
  | _ => env
theorem StOk.fz {K : PySem.W.Frag} {B : Base} {F H : Hp} {env : VEnv} {σ : L2.St} (st : StOk K ca B F env σ H) (i : Nat) : ∃ F', Same F F' ∧ StOk K ca B F' (fzE i env) σ H := by
  unfold fzE
  split
  · rename_i xs e
    obtain ⟨v, e1, p, vs, rfl, n0, f, hp, q⟩ := st.sl i _ e
    have hi : i < env.length := (List.getElem?_eq_some_iff.mp e).1
    have s1 : Same F (upd F p (.lst vs)) := fun b u k => by rw [upd_ne (ne_of_none k f)]; exact k
    have up0 : ∀ {j : Nat} {r : RV}, (env.set i (some (.d (.list xs))))[j]? = some (some r) → (r.own = true ∨ r.isB = true) → j ≠ i ∧ env[j]? = some (some r) := fun {j r} e2 o => by
      by_cases h : i = j
      · subst h; rw [List.getElem?_set_self hi] at e2; cases e2; rcases o with o | o <;> cases o
      · rw [List.getElem?_set_ne h] at e2; exact ⟨Ne.symm h, e2⟩
    refine ⟨upd F p (.lst vs), s1, st.gr.freeze n0 f hp, by simpa using st.len, fun j r e2 => ?_, fun j r a e2 o z => ?_, fun j k r1 r2 a jk q1 q2 o1 o2 z1 z2 => ?_, ⟨st.rg.tb.to fun P ps f0 h0 => ⟨by rw [upd_ne (show P ≠ p from fun w => by rw [w, hp] at h0; cases h0)]; exact f0, rfl⟩,
      fun a b p' q me x fs r' e2 z hq e' o' => st.rg.o1 a b p' q me x fs r' (up0 e2 (.inl rfl)).2 z hq (up0 e' (.inl o')).2 o',
      fun a b p1 p' q me me' x x' fs fs' ab e2 z e' z' hq => st.rg.o2 a b p1 p' q me me' x x' fs fs' ab (up0 e2 (.inl rfl)).2 z (up0 e' (.inl rfl)).2 z' hq,
      fun a p' q x fs e2 z hq => st.rg.o3 a p' q x fs (up0 e2 (.inr rfl)).2 z hq,
      fun a x fs e2 => st.rg.me a x fs (up0 e2 (.inl rfl)).2⟩⟩
    · by_cases h : i = j
      · subst h
        rw [List.getElem?_set_self hi] at e2
        cases e2
        exact ⟨_, e1, .lst upd_same (DqA.mono s1 _ _ q)⟩
      · rw [List.getElem?_set_ne h] at e2
        obtain ⟨w, e3, q3⟩ := st.sl j r e2
        refine ⟨w, e3, ?_⟩
        have ne : ∀ a, r.own = true → w = .ref a → a ≠ p := fun a o z y => by
          subst y; subst z
          exact st.dis i j (.ol xs) r a h e e2 rfl o e1 e3
        cases r with
        | d x => exact Dq.mono s1 x w q3
        | ol ys => obtain ⟨a, ws, z, n, f2, h2, q4⟩ := q3; exact ⟨a, ws, z, n, by rw [upd_ne (ne a rfl z)]; exact f2, h2, DqA.mono s1 _ _ q4⟩
        | od ys => obtain ⟨a, ws, z, n, f2, h2, q4⟩ := q3; exact ⟨a, ws, z, n, by rw [upd_ne (ne a rfl z)]; exact f2, h2, q4.mono s1⟩
        | ot ys => obtain ⟨a, ws, z, n, f2, h2, q4⟩ := q3; exact ⟨a, ws, z, n, by rw [upd_ne (ne a rfl z)]; exact f2, h2, q4.mono s1⟩
        | sc ns => obtain ⟨a, z, q4⟩ := q3; exact ⟨a, z, s1.seq q4⟩
        | bl ys => obtain ⟨a, ws, z, h2, q4⟩ := q3; exact ⟨a, ws, z, h2, DqA.mono s1 _ _ q4⟩
        | bd ys => obtain ⟨a, ws, z, h2, q4⟩ := q3; exact ⟨a, ws, z, h2, q4.mono s1⟩
        | bt ys => obtain ⟨a, ws, z, h2, q4⟩ := q3; exact ⟨a, ws, z, h2, q4.mono s1⟩
        | xo a dd c fs => obtain ⟨z, ws, h2, q4⟩ := q3; exact ⟨z, ws, h2, q4.mono s1⟩
        | t3 x ys kvs => exact t3_mono s1 q3
        | fd kvs => exact fd_mono s1 q3
        | ob me x fs =>
          obtain ⟨a, z, h4⟩ := q3
          subst z
          have h5 := h4
          obtain ⟨C, dx, us, _, hi5, n5, f5, _⟩ := h5
          refine ⟨a, rfl, h4.to s1 n5 (by rw [upd_ne (ne a rfl rfl)]; exact f5) rfl fun q hq ws nq fq lq => ⟨nq, ?_, lq⟩⟩
          rw [upd_ne (show q ≠ p from fun w => st.rg.o1 j i a q me x fs (.ol xs) e2 e3 hq e rfl (w ▸ e1))]
          exact fq
        | bo x fs => obtain ⟨a, z, h4⟩ := q3; exact ⟨a, z, h4.to s1 rfl fun q _ ws lq => lq⟩
    · by_cases h : i = j
      · subst h; rw [List.getElem?_set_self hi] at e2; cases e2; cases o
      · rw [List.getElem?_set_ne h] at e2
        exact st.bo j r a e2 o z
    · by_cases h1 : i = j
      · subst h1; rw [List.getElem?_set_self hi] at q1; cases q1; cases o1
      · by_cases h2 : i = k
        · subst h2; rw [List.getElem?_set_self hi] at q2; cases q2; cases o2
        · rw [List.getElem?_set_ne h1] at q1
          rw [List.getElem?_set_ne h2] at q2
          exact st.dis j k r1 r2 a jk q1 q2 o1 o2 z1 z2
  · exact ⟨F, Same.refl _, st⟩
end VL

namespace VL
open PySem PySem.Spec PyProof.Rows L2

section
variable {ca : CA} {W : WX} {X : Cx} {a b e : Expr} {es : List Expr} {fa fb : VEnv → Rs RV} {pos : Pos} {st : Stmt} {rest : List Stmt} {f g : VEnv → Out}
/-! ### blocks -/
def sNil : VEnv → Out := fun env => .nx env
def sSeq (f g : VEnv → Out) : VEnv → Out := fun env => (f env).then g
theorem vss_nil : VSs ca W X [] sNil := ⟨_, pss_nil, fun _ _ _ _ _ _ st p => p _ _ _ (Same.refl _) st⟩
theorem vss_cons (h1 : VS ca W X st f) (h2 : VSs ca W X rest g) : VSs ca W X (st :: rest) (sSeq f g) := by
  obtain ⟨t, p1, s1⟩ := h1
  obtain ⟨u, p2, s2⟩ := h2
  refine ⟨_, pss_cons p1 p2, fun B F env σ H D st p => ?_⟩
  show t { D with nx := u D } σ H
  refine s1 B F env σ H _ st ?_
  unfold sSeq at p
  cases e : f env with
  | nx env' => rw [e] at p; exact fun F' σ' H' s st' => s2 B F' env' σ' H' D st' (PostS.mono s p)
  | bk env' => rw [e] at p; exact p
  | ct env' => rw [e] at p; exact p
  | rt r => rw [e] at p; exact p
  | rm o d => rw [e] at p; exact p
  | ex c fs env' => rw [e] at p; exact p
  | no => rw [e] at p; exact p
theorem vss_one (h1 : VS ca W X st f) : VSs ca W X [st] f := by
  obtain ⟨t, p1, s1⟩ := h1
  exact ⟨_, pss_one p1, s1⟩
def sFz (i : Nat) (f : VEnv → Out) : VEnv → Out := fun env => f (fzE i env)
theorem vs_fz (i : Nat) (h : VS ca W X st f) : VS ca W X st (sFz i f) := by
  obtain ⟨t, p1, s1⟩ := h
  refine ⟨t, p1, fun B F env σ H D st p => ?_⟩
  obtain ⟨F', s, st'⟩ := st.fz i
  exact s1 B F' (fzE i env) σ H D st' (PostS.mono s p)
/-! ### small statements -/
def sBk : VEnv → Out := fun env => .bk env
def sCt : VEnv → Out := fun env => .ct env
theorem vs_pass : VS ca W X (.Pass pos) sNil := ⟨_, ps_pass, fun _ _ _ _ _ _ st p => p _ _ _ (Same.refl _) st⟩
theorem vs_break : VS ca W X (.Break pos) sBk := ⟨_, ps_break, fun _ _ _ _ _ _ st p => p _ _ _ (Same.refl _) st⟩
theorem vs_continue : VS ca W X (.Continue pos) sCt := ⟨_, ps_continue, fun _ _ _ _ _ _ st p => p _ _ _ (Same.refl _) st⟩
/-- no borrowed thing is handed on -/
def RV.nb : RV → Rs RV
  | .bl _ | .bd _ | .bt _ | .bo _ _ | .ob true _ _ => .no
  | r => .ok r
theorem nb_b {r r' : RV} (e : r.nb = .ok r') : r.isB = false ∧ r.notMe = true := by
  cases r with
  | ob me _ _ => cases me <;> cases e; exact ⟨rfl, rfl⟩
  | _ => first | exact ⟨rfl, rfl⟩ | cases e
def sRet (fe : VEnv → Rs RV) : VEnv → Out := fun env => (fe env).out env fun r => (r.nb).out env .rt
theorem vs_ret (he : VE ca W X e fa) : VS ca W X (.Return (some e) pos) (sRet fa) := by
  obtain ⟨t, pe, se⟩ := he
  refine ⟨_, ps_ret pe, fun B F env σ H D st p => ?_⟩
  refine outE (t := t) (Q := D.rt) se st p fun r F1 H1 v p1 g q => ?_
  cases r with
  | bl _ => exact p1.elim
  | bd _ => exact p1.elim
  | bt _ => exact p1.elim
  | bo _ _ => exact p1.elim
  | ob me _ _ =>
    cases me with
    | true => exact p1.elim
    | false => exact p1 F1 H1 v (st.gr.trans g) (q.older st.gr.hh)
  | _ => exact p1 F1 H1 v (st.gr.trans g) (q.older st.gr.hh)
/-- return x, x a list or dict of the def's own -/
def sRetV (i : Nat) : VEnv → Out := fun env => match env[i]? with
  | some (some r) => (r.nb).out env .rt
  | _ => .no
theorem vs_retv (i : Nat) {x : Str} {p' : Pos} (hN : X.N[i]? = some x := by rfl) (hv : Vis X.env.scope x := by first | exact Or.inl rfl | exact Or.inr (Or.inl rfl) | exact Or.inr (Or.inr rfl)) (hd : (x == ("__debug__" : Str)) = false := by decide)
    (hcd : (x == ("__classdict__" : Str)) = false := by decide) : VS ca W X (.Return (some (.Name x p')) pos) (sRetV i) := by
  refine ⟨_, ps_ret (pe_var hN hv hd hcd), fun B F env σ H D st p => ?_⟩
  unfold sRetV at p
  split at p
  · rename_i r e
    obtain ⟨v, e1, h⟩ := st.sl i r e
    refine ⟨v, e1, ?_⟩
    cases r with
    | bl _ => exact p.elim
    | bd _ => exact p.elim
    | bt _ => exact p.elim
    | bo _ _ => exact p.elim
    | ob me _ _ =>
      cases me with
      | true => exact p.elim
      | false => exact p F H v st.gr h
    | _ => exact p F H v st.gr h
  · exact p.elim
def sRetN : VEnv → Out := fun _ => .rt (.d .none)
theorem vs_retN : VS ca W X (.Return none pos) sRetN := ⟨_, ps_retN, fun _ _ _ _ _ _ st p => p _ _ _ st.gr .non⟩
def sDrop (fe : VEnv → Rs RV) : VEnv → Out := fun env => (fe env).out env fun _ => .nx env
theorem vs_expr (he : VE ca W X e fa) (hs : swapsWith e none pos.line X.env = pure false := by rfl) : VS ca W X (.Expr e pos) (sDrop fa) := by
  obtain ⟨t, pe, se⟩ := he
  refine ⟨_, ps_expr pe hs, fun B F env σ H D st p => ?_⟩
  show t σ H fun _ H1 => D.nx σ H1
  exact outE se st p fun r F1 H1 v p1 g q => p1 F1 σ H1 (Same.refl _) (st.grow g)
/-- a name gets a value -/
def putS (i : Nat) (r : RV) (env : VEnv) : Out := (r.nb).out env fun r => if i < env.length then .nx (env.set i (some r)) else .no
def sSet (i : Nat) (fe : VEnv → Rs RV) : VEnv → Out := fun env => (fe env).out env fun r => putS i r env
theorem snd_put {K : PySem.W.Frag} {B : Base} {F H F1 H1 : Hp} {env : VEnv} {σ : L2.St} {D : Ends} {i : Nat} {r : RV} {v : V} (st : StOk K ca B F env σ H) (g : Grow F H F1 H1) (q : RVok K H F1 H1 v r) (p : PostS K ca W B F1 D (putS i r env)) : D.nx (σ.set i (some v)) H1 := by
  unfold putS at p
  have go : ∀ r' : RV, r.nb = .ok r' → r' = r := fun r' e => by
    cases r with
    | ob me _ _ => cases me <;> cases e; rfl
    | _ => cases e <;> rfl
  cases e : r.nb with
  | ok r' =>
    rw [e] at p
    cases go r' e
    simp only [Rs.out_ok] at p
    split at p
    · rename_i hi
      exact p F1 _ H1 (Same.refl _) (st.putE g hi q (nb_b e).1 (nb_b e).2)
    · exact p.elim
  | ex c fs => exact absurd e (by
      cases r with
      | ob me _ _ => cases me <;> simp [RV.nb]
      | _ => simp [RV.nb])
  | no => rw [e] at p; exact p.elim
theorem vs_set {i : Nat} {x : Str} {pos' : Pos} (hN : X.N.Nodup) (hi : X.N[i]? = some x) (hx : Loc X.env.scope x) (he : VE ca W X e fa) (hs : swapsWith e (some (.Name x pos')) pos.line X.env = pure false := by rfl) (hf : X.fn x = true ∨ X.env.scope.names.lookup x = some .local := by first | exact .inl rfl | exact .inr rfl | assumption) :
    VS ca W X (.Assign [.Name x pos'] e pos) (sSet i fa) := by
  obtain ⟨t, pe, se⟩ := he
  refine ⟨_, ps_set hN hi hx pe hs hf, fun B F env σ H D st p => ?_⟩
  show t σ H fun x H1 => D.nx (σ.set i (some x)) H1
  exact outE se st p fun r F1 H1 v p1 g q => snd_put st g q p1
def sIf (c : VEnv → Rs Bool) (f g : VEnv → Out) : VEnv → Out := fun env => (c env).out env fun b => if b = true then f env else g env
theorem vs_if {c : Expr} {ss tt : List Stmt} {tc : VEnv → Rs Bool} (hc : VT ca W X c tc) (ha : VSs ca W X ss f) (hb : VSs ca W X tt g) : VS ca W X (.If c ss tt pos) (sIf tc f g) := by
  obtain ⟨t, pe, se⟩ := hc
  obtain ⟨ta, pa, sa⟩ := ha
  obtain ⟨tb, pb, sb⟩ := hb
  refine ⟨_, ps_if pe pa pb, fun B F env σ H D st p => ?_⟩
  show t σ H fun b H1 => if b = true then ta D σ H1 else tb D σ H1
  refine outT se st p fun b F1 H1 p1 g => ?_
  cases b with
  | true => rw [if_pos rfl]; rw [if_pos rfl] at p1; exact sa B F1 env σ H1 D (st.grow g) p1
  | false => rw [if_neg Bool.false_ne_true]; rw [if_neg Bool.false_ne_true] at p1; exact sb B F1 env σ H1 D (st.grow g) p1

/-! ### while -/
def loopW (c : VEnv → Rs Bool) (f : VEnv → Out) : Nat → VEnv → Out
  | 0, _ => .no
  | n + 1, env => (c env).out env fun b => if b = true then
      (match f env with
        | .nx e => loopW c f n e
        | .ct e => loopW c f n e
        | .bk e => .nx e
        | o => o) else .nx env
def sWhile (n : Nat) (c : VEnv → Rs Bool) (f : VEnv → Out) : VEnv → Out := loopW c f n
theorem vs_while {c : Expr} {body : List Stmt} {tc : VEnv → Rs Bool} (n : Nat) (hp : PassesOwn (model X.prog X.w) X.A X.env X.xe) (hc : VT ca W X c tc) (hb : VSs ca W X body f) : VS ca W X (.While c body [] pos) (sWhile n tc f) := by
  obtain ⟨t, pe, se⟩ := hc
  obtain ⟨tb, pb, sb⟩ := hb
  refine ⟨_, ps_while hp pe pb, fun B F env σ H D st p => ?_⟩
  refine ⟨fun m σ H => ∃ F' env', Same F F' ∧ StOk X.K ca B F' env' σ H ∧ PostS X.K ca W B F' D (loopW tc f m env'), ⟨n, F, env, Same.refl _, st, p⟩, ?_⟩
  rintro m σ1 H1 ⟨F1, env1, s1, st1, p1⟩
  cases m with
  | zero => exact p1.elim
  | succ m =>
    unfold loopW at p1
    refine outT se st1 p1 fun b F2 H2 p2 g => ?_
    cases b with
    | false => rw [if_neg Bool.false_ne_true]; rw [if_neg Bool.false_ne_true] at p2; exact p2 F2 σ1 H2 (Same.refl _) (st1.grow g)
    | true =>
      rw [if_pos rfl]; rw [if_pos rfl] at p2
      refine ⟨fun σ' H' => ∃ F' env', Same F F' ∧ StOk X.K ca B F' env' σ' H' ∧ PostS X.K ca W B F' D (loopW tc f m env'), fun σ' H' z => ⟨m, Nat.lt_succ_self m, z⟩, ?_⟩
      refine sb B F2 env1 σ1 H2 _ (st1.grow g) ?_
      cases e : f env1 with
      | nx env' => rw [e] at p2; exact fun F' σ' H' s st' => ⟨F', env', (s1.trans g.ff).trans s, st', PostS.mono s p2⟩
      | ct env' => rw [e] at p2; exact fun F' σ' H' s st' => ⟨F', env', (s1.trans g.ff).trans s, st', PostS.mono s p2⟩
      | bk env' => rw [e] at p2; exact p2
      | rt r => rw [e] at p2; exact p2
      | rm o d => rw [e] at p2; exact p2
      | ex c fs env' => rw [e] at p2; exact p2
      | no => rw [e] at p2; exact p2

/-! ### what is walked -/
structure JWalk (J : It) (G : Hp) (vs : List V) : Prop where
  go : ∀ i H, SameN G H → i < vs.length → J.go i H
  yld : ∀ i H x H', SameN G H → J.yld i H x H' → i < vs.length → H' = H ∧ vs[i]? = some x
  stop : ∀ H, SameN G H → J.stop vs.length H
theorem jw_list {K : PySem.W.Frag} {G : Hp} {a : Addr} {vs : List V} (h : SqL K G a vs) : JWalk (Itl K a) G vs where
  go := fun i H s hi => ⟨vs, vs[i], s.seq h, by simp [hi]⟩
  yld := fun i H x H' s y hi => ⟨y.1, y.2 vs (s.seq h)⟩
  stop := fun H s => ⟨vs, s.seq h, Nat.le_refl _⟩
theorem jw_tup {K : PySem.W.Frag} {G : Hp} {a : Addr} {vs : List V} (h : SqT K G a vs) : JWalk (Itt K a) G vs where
  go := fun i H s hi => ⟨vs, vs[i], s.seqT h, by simp [hi]⟩
  yld := fun i H x H' s y hi => ⟨y.1, y.2 vs (s.seqT h)⟩
  stop := fun H s => ⟨vs, s.seqT h, Nat.le_refl _⟩
def rngL (lo : Int) (n : Nat) : List PyData := (List.range n).map fun i : Nat => .int (lo + (i : Int))
theorem jw_rng {G : Hp} (lo : Int) (n : Nat) : JWalk (Itr lo n) G ((List.range n).map fun i : Nat => V.int (lo + (i : Int))) where
  go := fun i H s hi => by
    have hi' : i < n := by simpa using hi
    exact hi'
  yld := fun i H x H' s y hi => by
    have hi' : i < n := by simpa using hi
    refine ⟨y.1, ?_⟩
    rw [y.2, List.getElem?_map, List.getElem?_range hi']
    rfl
  stop := fun H s => by show n ≤ _; simp
def PostI (K : PySem.W.Frag) (ca : CA) (W : WX) (σ : L2.St) (F H : Hp) (R : It → Hp → Prop) : Rs (List PyData) → Prop
  | .ok xs => ∀ J F' H' vs, Grow F H F' H' → DqA K F' vs xs → JWalk J F' vs → R J H'
  | .ex c fs => PostX K ca W σ F H c fs
  | .no => False
def SndI (K : PySem.W.Frag) (ca : CA) (W : WX) (t : TI) (f : VEnv → Rs (List PyData)) : Prop := ∀ B F env σ H R, StOk K ca B F env σ H → PostI K ca W σ F H R (f env) → t σ H R
structure VI (ca : CA) (W : WX) (X : Cx) (tg iter : Expr) (f : VEnv → Rs (List PyData)) : Prop where
  ex : ∃ t, PI X tg iter t ∧ SndI X.K ca W t f
/-- for a comprehension: a borrowed list, too -/
def PostJ (K : PySem.W.Frag) (ca : CA) (W : WX) (σ : L2.St) (F H : Hp) (R : It → Hp → Prop) : Rs (List PyData) → Prop
  | .ok xs => ∀ J F' H' vs, Grow F H F' H' → DqA K F' vs xs → JWalk J H' vs → R J H'
  | .ex c fs => PostX K ca W σ F H c fs
  | .no => False
def SndJ (K : PySem.W.Frag) (ca : CA) (W : WX) (t : TI) (f : VEnv → Rs (List PyData)) : Prop := ∀ B F env σ H R, StOk K ca B F env σ H → PostJ K ca W σ F H R (f env) → t σ H R
structure VJ (ca : CA) (W : WX) (X : Cx) (tg iter : Expr) (f : VEnv → Rs (List PyData)) : Prop where
  ex : ∃ t, PI X tg iter t ∧ SndJ X.K ca W t f
theorem JWalk.up {J : It} {G G' : Hp} {vs : List V} (h : JWalk J G vs) (s : Same G G') : JWalk J G' vs :=
  ⟨fun i H q => h.go i H (s.n.trans q), fun i H x H' q => h.yld i H x H' (s.n.trans q), fun H q => h.stop H (s.n.trans q)⟩
theorem VI.vj {tg iter : Expr} {f : VEnv → Rs (List PyData)} (h : VI ca W X tg iter f) : VJ ca W X tg iter f := by
  obtain ⟨t, p, s⟩ := h
  refine ⟨t, p, fun B F env σ H R st q => s B F env σ H R st ?_⟩
  cases e : f env with
  | ok xs => rw [e] at q; exact fun J F' H' vs g d j => q J F' H' vs g d (j.up g.cfg.sub)
  | ex c fs => rw [e] at q; exact q
  | no => rw [e] at q; exact q
def gL : RV → Rs (List PyData)
  | .d (.list xs) => .ok xs
  | .ol xs => .ok xs
  | .sc ns => .ok (ns.map .int)
  | _ => .no
def gT : RV → Rs (List PyData)
  | .d (.tuple xs) => .ok xs
  | _ => .no
def gLb : RV → Rs (List PyData)
  | .bl xs => .ok xs
  | r => gL r
def iL (fe : VEnv → Rs RV) : VEnv → Rs (List PyData) := fun env => (fe env).bind gL
def iT (fe : VEnv → Rs RV) : VEnv → Rs (List PyData) := fun env => (fe env).bind gT
def iLb (fe : VEnv → Rs RV) : VEnv → Rs (List PyData) := fun env => (fe env).bind gLb
theorem vi_list {tg : Expr} (h : VE ca W X e fa) : VI ca W X tg e (iL fa) := by
  obtain ⟨t, p, s⟩ := h
  refine ⟨_, pi_list p, fun B F env σ H R st q => ?_⟩
  show t σ H fun x H1 => ∃ a, x = .ref a ∧ (∃ xs, SqL X.K H1 a xs) ∧ R (Itl X.K a) H1
  refine seqE (PostI X.K ca W σ F H R) s st q (fun _ _ h => h) (fun h => h) fun r F1 H1 v p1 g1 q1 => ?_
  cases r with
  | d x =>
    cases x with
    | list xs =>
      cases q1 with
      | lst h1 h2 => exact ⟨_, rfl, ⟨_, SqL.of (g1.cfg.sub _ _ h1)⟩, p1 _ F1 H1 _ g1 h2 (jw_list (SqL.of h1))⟩
    | _ => exact p1.elim
  | ol xs =>
    obtain ⟨p, vs, rfl, n0, f, hp, q2⟩ := q1
    have g2 := g1.freeze n0 f hp
    have s2 : Same F1 (upd F1 p (.lst vs)) := fun b u k => by rw [upd_ne (ne_of_none k f)]; exact k
    exact ⟨p, rfl, ⟨_, SqL.of hp⟩, p1 _ _ H1 vs g2 (DqA.mono s2 _ _ q2) (jw_list (SqL.of upd_same))⟩
  | sc ns =>
    obtain ⟨a, rfl, q2⟩ := q1
    exact ⟨a, rfl, ⟨_, g1.cfg.sub.seq q2⟩, p1 _ F1 H1 _ g1 (DqA.of_ints ns) (jw_list q2)⟩
  | _ => exact p1.elim
theorem vi_tup {tg : Expr} (h : VE ca W X e fa) : VI ca W X tg e (iT fa) := by
  obtain ⟨t, p, s⟩ := h
  refine ⟨_, pi_tup p, fun B F env σ H R st q => ?_⟩
  show t σ H fun x H1 => ∃ a, x = .ref a ∧ (∃ xs, SqT X.K H1 a xs) ∧ R (Itt X.K a) H1
  refine seqE (PostI X.K ca W σ F H R) s st q (fun _ _ h => h) (fun h => h) fun r F1 H1 v p1 g1 q1 => ?_
  cases r with
  | d x =>
    cases x with
    | tuple xs =>
      cases q1 with
      | tup h1 h2 => exact ⟨_, rfl, ⟨_, same_seqT g1.cfg.sub h1.1⟩, p1 _ F1 H1 _ g1 h2 (jw_tup h1.1)⟩
    | _ => exact p1.elim
  | _ => exact p1.elim
theorem vj_list {tg : Expr} (h : VE ca W X e fa) : VJ ca W X tg e (iLb fa) := by
  obtain ⟨t, p, s⟩ := h
  refine ⟨_, pi_list p, fun B F env σ H R st q => ?_⟩
  show t σ H fun x H1 => ∃ a, x = .ref a ∧ (∃ xs, SqL X.K H1 a xs) ∧ R (Itl X.K a) H1
  refine seqE (PostJ X.K ca W σ F H R) s st q (fun _ _ h => h) (fun h => h) fun r F1 H1 v p1 g1 q1 => ?_
  cases r with
  | d x =>
    cases x with
    | list xs =>
      cases q1 with
      | lst h1 h2 => exact ⟨_, rfl, ⟨_, SqL.of (g1.cfg.sub _ _ h1)⟩, p1 _ F1 H1 _ g1 h2 (jw_list (SqL.of (g1.cfg.sub _ _ h1)))⟩
    | _ => exact p1.elim
  | ol xs =>
    obtain ⟨p, vs, rfl, n0, f, hp, q2⟩ := q1
    exact ⟨p, rfl, ⟨_, SqL.of hp⟩, p1 _ _ H1 vs g1 q2 (jw_list (SqL.of hp))⟩
  | bl xs =>
    obtain ⟨p, vs, rfl, hp, q2⟩ := q1
    exact ⟨p, rfl, ⟨_, SqL.of hp⟩, p1 _ _ H1 vs g1 q2 (jw_list (SqL.of hp))⟩
  | sc ns =>
    obtain ⟨a, rfl, q2⟩ := q1
    exact ⟨a, rfl, ⟨_, g1.cfg.sub.seq q2⟩, p1 _ F1 H1 _ g1 (DqA.of_ints ns) (jw_list (g1.cfg.sub.seq q2))⟩
  | _ => exact p1.elim
theorem vj_tup {tg : Expr} (h : VE ca W X e fa) : VJ ca W X tg e (iT fa) := (vi_tup h).vj
theorem DqA.rng {K : PySem.W.Frag} {F : Hp} (lo : Int) (n : Nat) : DqA K F ((List.range n).map fun i : Nat => V.int (lo + (i : Int))) (rngL lo n) := by
  have := DqA.of_ints (K := K) (F := F) ((List.range n).map fun i : Nat => lo + (i : Int))
  rw [List.map_map, List.map_map] at this
  exact this
def gR1 : List RV → Rs (List PyData)
  | [.d (.int j)] => if j.natAbs ≤ 1000000 then .ok (rngL 0 j.toNat) else .no
  | _ => .no
def gR2 : List RV → Rs (List PyData)
  | [.d (.int i), .d (.int j)] => if i.natAbs ≤ 1000000 ∧ j.natAbs ≤ 1000000 then .ok (rngL i (j - i).toNat) else .no
  | _ => .no
def iR (g : List RV → Rs (List PyData)) (fe : VEnv → Rs (List RV)) : VEnv → Rs (List PyData) := fun env => (fe env).bind g
theorem vi_range1 {tg : Expr} {p pos : Pos} {f : VEnv → Rs (List RV)} (hg : Gl X "range") (hm : X.mg "range" = none) (ha : VA ca W X [a] f) (hs : starEach [a] X.env = [(false, eval a X.env)] := by rfl) : VI ca W X tg (.Call (.Name "range" p) [a] [] pos) (iR gR1 f) := by
  obtain ⟨t, pa, sa⟩ := ha
  refine ⟨_, pi_range1 hg hm pa hs, fun B F env σ H R st q => ?_⟩
  show t σ H fun vs H1 => ∃ j : Int, vs = [.int j] ∧ -(2 ^ 62) ≤ j ∧ j < 2 ^ 62 ∧ R (Itr 0 j.toNat) H1
  refine seqA (PostI X.K ca W σ F H R) sa st q (fun _ _ h => h) (fun h => h) fun rs F1 H1 vs p1 g1 q1 => ?_
  unfold gR1 at p1
  split at p1
  · rename_i j
    split at p1
    · rename_i hj
      cases q1 with
      | cons h1 h2 =>
        cases h2
        cases h1
        exact ⟨j, rfl, by omega, by omega, p1 _ F1 H1 _ g1 (DqA.rng 0 j.toNat) (jw_rng 0 j.toNat)⟩
    · exact p1.elim
  · exact p1.elim
theorem vi_range2 {tg : Expr} {p pos : Pos} {f : VEnv → Rs (List RV)} (hg : Gl X "range") (hm : X.mg "range" = none) (ha : VA ca W X [a, b] f) (hs : starEach [a, b] X.env = [(false, eval a X.env), (false, eval b X.env)] := by rfl) (hs2 : starEach [b] X.env = [(false, eval b X.env)] := by rfl) : VI ca W X tg (.Call (.Name "range" p) [a, b] [] pos) (iR gR2 f) := by
  obtain ⟨t, pa, sa⟩ := ha
  refine ⟨_, pi_range2 hg hm pa hs hs2, fun B F env σ H R st q => ?_⟩
  show t σ H fun vs H1 => ∃ i j : Int, vs = [.int i, .int j] ∧ (-(2 ^ 62) ≤ i ∧ i < 2 ^ 62 ∧ -(2 ^ 62) ≤ j ∧ j < 2 ^ 62) ∧ R (Itr i (j - i).toNat) H1
  refine seqA (PostI X.K ca W σ F H R) sa st q (fun _ _ h => h) (fun h => h) fun rs F1 H1 vs p1 g1 q1 => ?_
  unfold gR2 at p1
  split at p1
  · rename_i i j
    split at p1
    · rename_i hj
      cases q1 with
      | cons h1 h2 =>
        cases h2 with
        | cons h3 h4 =>
          cases h4
          cases h1
          cases h3
          exact ⟨i, j, rfl, by omega, p1 _ F1 H1 _ g1 (DqA.rng i _) (jw_rng i _)⟩
    · exact p1.elim
  · exact p1.elim

/-! ### targets -/
inductive Tg where
  | nm (i : Nat) | tp (is : List Nat)
def tgEs : List Nat → List PyData → VEnv → Option VEnv
  | [], [], env => some env
  | i :: is, x :: xs, env => if i < env.length then tgEs is xs (env.set i (some (.d x))) else none
  | _, _, _ => none
def tgE : Tg → PyData → VEnv → Option VEnv
  | .nm i, x, env => if i < env.length then some (env.set i (some (.d x))) else none
  | .tp is, .tuple xs, env => tgEs is xs env
  | .tp _, _, _ => none
def gNms : List Nat → TGs
  | [] => gNil
  | i :: is => gCons (gName i) (gNms is)
def tgT (K : PySem.W.Frag) : Tg → TG
  | .nm i => gName i
  | .tp is => gTup K is.length (gNms is)
def setAll : List Nat → List V → L2.St → L2.St
  | i :: is, v :: vs, σ => setAll is vs (σ.set i (some v))
  | _, _, σ => σ
theorem StOk.putD {K : PySem.W.Frag} {B : Base} {F H : Hp} {env : VEnv} {σ : L2.St} (st : StOk K ca B F env σ H) {i : Nat} (hi : i < env.length) {v : V} {x : PyData} (q : Dq K F v x) : StOk K ca B F (env.set i (some (.d x))) (σ.set i (some v)) H :=
  st.put0 hi q rfl rfl
theorem snd_tgs {K : PySem.W.Frag} {B : Base} {F H : Hp} : ∀ {is : List Nat} {xs : List PyData} {vs : List V} {env env' : VEnv} {σ : L2.St} {Q : L2.St → Hp → Prop}, StOk K ca B F env σ H → DqA K F vs xs → tgEs is xs env = some env' → (StOk K ca B F env' (setAll is vs σ) H → Q (setAll is vs σ) H) → gNms is vs σ H Q
  | [], [], _, env, env', σ, Q, st, q, e, h => by cases q; cases e; exact ⟨rfl, h st⟩
  | [], _ :: _, _, env, env', σ, Q, st, q, e, h => by cases e
  | i :: is, [], _, env, env', σ, Q, st, q, e, h => by cases e
  | i :: is, x :: xs, _, env, env', σ, Q, st, q, e, h => by
    cases q with
    | cons h1 h2 =>
      rename_i v vs
      unfold tgEs at e
      split at e
      · rename_i hi
        exact ⟨v, vs, rfl, snd_tgs (st.putD hi h1) h2 e h⟩
      · cases e
def tgIx : Tg → List Nat
  | .nm i => [i]
  | .tp is => is
def tgSt (tg : Tg) (v : V) (vs : List V) (σ : L2.St) : L2.St := match tg with
  | .nm i => σ.set i (some v)
  | .tp is => setAll is vs σ
theorem snd_tg {K : PySem.W.Frag} {B : Base} {F H : Hp} {tg : Tg} {x : PyData} {v : V} {env env' : VEnv} {σ : L2.St} {Q : L2.St → Hp → Prop} (st : StOk K ca B F env σ H) (q : Dq K F v x) (e : tgE tg x env = some env') (h : ∀ vs, StOk K ca B F env' (tgSt tg v vs σ) H → Q (tgSt tg v vs σ) H) : tgT K tg v σ H Q := by
  cases tg with
  | nm i =>
    by_cases hi : i < env.length
    · have e' : some (env.set i (some (.d x))) = some env' := by simpa [tgE, hi] using e
      cases e'
      exact h [] (st.putD hi q)
    · simp [tgE, hi] at e
  | tp is =>
    cases x with
    | tuple xs =>
      cases q with
      | tup h1 h2 =>
        rename_i a vs
        refine ⟨a, vs, rfl, same_seqT st.cfg.sub h1.1, ?_, snd_tgs st h2 e (h vs)⟩
        rw [h2.length]
        have : ∀ (is : List Nat) (xs : List PyData) (env : VEnv), tgEs is xs env = some env' → xs.length = is.length := by
          intro is
          induction is with
          | nil => intro xs env e; cases xs with
            | nil => rfl
            | cons _ _ => cases e
          | cons i is ih => intro xs env e; cases xs with
            | nil => cases e
            | cons x xs =>
              unfold tgEs at e
              split at e
              · simp [ih xs _ e]
              · cases e
        exact this is xs env e
    | _ => cases e
structure VG (X : Cx) (target : Expr) (tg : Tg) : Prop where
  ex : PG X target (tgT X.K tg)
structure VGs (X : Cx) (es : List Expr) (is : List Nat) : Prop where
  ex : PGs X es (gNms is)
theorem vg_name {i : Nat} {x : Str} (hN : X.N.Nodup) (hi : X.N[i]? = some x) (hx : Loc X.env.scope x) (hf : X.fn x = true ∨ X.env.scope.names.lookup x = some .local := by first | exact .inl rfl | exact .inr rfl | assumption) : VG X (.Name x pos) (.nm i) := ⟨pg_name hN hi hx hf⟩
theorem vgs_nil : VGs X [] [] := ⟨pgs_nil⟩
theorem vgs_cons {i : Nat} {x : Str} {is : List Nat} (hN : X.N.Nodup) (hi : X.N[i]? = some x) (hx : Loc X.env.scope x) (h2 : VGs X es is) (hf : X.fn x = true ∨ X.env.scope.names.lookup x = some .local := by first | exact .inl rfl | exact .inr rfl | assumption)
    (hs : (assignEach (.Name x pos :: es) X.env).map (·.2) = assign (.Name x pos) X.env :: (assignEach es X.env).map (·.2) := by rfl) : VGs X (.Name x pos :: es) (i :: is) := ⟨pgs_cons (pg_name hN hi hx hf) h2.ex hs⟩
theorem vg_tup {k : Nat} {is : List Nat} (hc : X.calm = true) (h : VGs X es is) (hn : (assignEach es X.env).length = is.length := by rfl) (hst : (assignEach es X.env).findIdx? (·.1) = none := by rfl) : VG X (.Tuple es k pos) (.tp is) := ⟨pg_tup hc h.ex hn hst⟩
/-- a, b = e -/
def sUnp (tg : Tg) (fe : VEnv → Rs RV) : VEnv → Out := fun env => (fe env).out env fun r => match r.toD with
  | some x => (match tgE tg x env with | some env' => .nx env' | none => .no)
  | none => .no
theorem vs_unp {tg : Expr} {g : Tg} (he : VE ca W X e fa) (hg : VG X tg g) (hs : swapsWithSole [tg] e pos.line X.env = pure false := by rfl) (hw : swappedStores [tg] e X.env = pure none := by rfl)
    (h1 : (assignEach [tg] X.env).map (·.2) = [assign tg X.env] := by rfl) : VS ca W X (.Assign [tg] e pos) (sUnp g fa) := by
  obtain ⟨t, pe, se⟩ := he
  refine ⟨_, ps_asg pe hg.ex hs hw h1, fun B F env σ H D st p => ?_⟩
  show t σ H fun x H1 => tgT X.K g x σ H1 D.nx
  refine outE se st p fun r F1 H1 v p1 gg q => ?_
  cases e1 : r.toD with
  | none => rw [e1] at p1; exact p1.elim
  | some x =>
    rw [e1] at p1
    obtain ⟨F2, g2, s2, q2⟩ := frz gg (Fz.of q e1)
    simp only at p1
    cases e2 : tgE g x env with
    | none => rw [e2] at p1; exact p1.elim
    | some env' => rw [e2] at p1; exact snd_tg (st.grow g2) q2 e2 fun vs st' => p1 F2 _ H1 s2 st'

/-! ### for -/
def loopF (tg : Tg) (f : VEnv → Out) : List PyData → VEnv → Out
  | [], env => .nx env
  | x :: xs, env => match tgE tg x env with
    | none => .no
    | some e1 => match f e1 with
      | .nx e => loopF tg f xs e
      | .ct e => loopF tg f xs e
      | .bk e => .nx e
      | o => o
def sFor (tg : Tg) (src : VEnv → Rs (List PyData)) (f : VEnv → Out) : VEnv → Out := fun env => (src env).out env fun xs => loopF tg f xs env
theorem drop_cons {α : Type} {xs : List α} {i : Nat} {x : α} (h : xs[i]? = some x) : xs.drop i = x :: xs.drop (i + 1) := by
  obtain ⟨h1, h2⟩ := List.getElem?_eq_some_iff.mp h
  rw [← h2]
  exact List.drop_eq_getElem_cons h1
theorem vs_for {tg iter : Expr} {body : List Stmt} {src : VEnv → Rs (List PyData)} {g : Tg} (hp : PassesOwn (model X.prog X.w) X.A X.env X.xe) (hc : X.calm = true) (hi : VI ca W X tg iter src) (hg : VG X tg g) (hb : VSs ca W X body f)
    (hs : ∀ x, foldedSetIterable iter X.env x = pure x := by intro _; rfl) : VS ca W X (.For tg iter body [] pos) (sFor g src f) := by
  obtain ⟨t, pi, si⟩ := hi
  obtain ⟨tb, pb, sb⟩ := hb
  refine ⟨_, ps_for hp hc pi hg.ex pb hs, fun B F env σ H D st p => ?_⟩
  refine si B F env σ H _ st ?_
  unfold sFor at p
  cases e : src env with
  | no => rw [e] at p; exact p
  | ex c fs => rw [e] at p; exact exOut st p
  | ok xs =>
    rw [e] at p
    intro J F1 H1 vs g1 d1 jw
    refine ⟨fun i m σ H => m = vs.length - i ∧ i ≤ vs.length ∧ ∃ F' env', Same F1 F' ∧ StOk X.K ca B F' env' σ H ∧ PostS X.K ca W B F' D (loopF g f (xs.drop i) env'), ⟨_, rfl, Nat.zero_le _, F1, env, Same.refl _, st.grow g1, PostS.mono g1.ff p⟩, ?_⟩
    rintro i m σ2 H2 ⟨rfl, hi, F2, env2, s2, st2, p2⟩
    have s3 : Same F1 H2 := s2.trans st2.cfg.sub
    by_cases hlt : i < vs.length
    · obtain ⟨x, hx, qx⟩ := DqA.get' d1 (List.getElem?_eq_getElem hlt)
      rw [drop_cons hx] at p2
      unfold loopF at p2
      refine .inr ⟨jw.go i H2 s3.n hlt, fun σ' H' => ∃ F' env', Same F1 F' ∧ StOk X.K ca B F' env' σ' H' ∧ PostS X.K ca W B F' D (loopF g f (xs.drop (i + 1)) env'), fun σ' H' z => ⟨vs.length - (i + 1), by omega, rfl, hlt, z⟩, fun y H' hy => ?_⟩
      obtain ⟨rfl, e2⟩ := jw.yld i H2 y H' s3.n hy hlt
      rw [List.getElem?_eq_getElem hlt] at e2
      cases e2
      cases e3 : tgE g x env2 with
      | none => rw [e3] at p2; exact p2.elim
      | some env3 =>
        rw [e3] at p2
        simp only at p2
        refine snd_tg st2 (qx.mono s2) e3 fun ws st3 => ?_
        refine sb B F2 env3 _ _ _ st3 ?_
        cases e4 : f env3 with
        | nx env' => rw [e4] at p2; exact fun F' σ' H' s st' => ⟨F', env', s2.trans s, st', PostS.mono s p2⟩
        | ct env' => rw [e4] at p2; exact fun F' σ' H' s st' => ⟨F', env', s2.trans s, st', PostS.mono s p2⟩
        | bk env' => rw [e4] at p2; exact p2
        | rt r => rw [e4] at p2; exact p2
        | rm o d => rw [e4] at p2; exact p2
        | ex c fs env' => rw [e4] at p2; exact p2
        | no => rw [e4] at p2; exact p2
    · have e5 : i = vs.length := by omega
      subst e5
      rw [List.drop_eq_nil_of_le (by rw [d1.length]; exact Nat.le_refl _)] at p2
      exact .inl ⟨jw.stop H2 s3.n, p2 F2 σ2 H2 (Same.refl _) st2⟩
end
end VL

namespace VL
open PySem PySem.Spec PyProof.Rows L2

/-- inside a comprehension nothing may be raised -/
abbrev W0 : WX := fun _ _ _ _ => False
section
variable {ca : CA} {W : WX} {X : Cx} {a b e : Expr} {es : List Expr} {fa fb : VEnv → Rs RV} {pos : Pos} {st : Stmt} {rest : List Stmt} {f g : VEnv → Out}
/-! ## list comprehensions -/
def wipeE (env : VEnv) : List Nat → VEnv
  | [] => env
  | v :: vs => (wipeE env vs).set v none
theorem wipe_ok {K : PySem.W.Frag} {B : Base} {F H : Hp} {env : VEnv} {σ : L2.St} (st : StOk K ca B F env σ H) : ∀ vs : List Nat, StOk K ca B F (wipeE env vs) (wipe σ vs) H
  | [] => st
  | v :: vs => (wipe_ok st vs).drop v
theorem wipe_get {σ : L2.St} {i : Nat} {vs : List Nat} (h : i ∈ vs) : (wipe σ vs)[i]? = some none ∨ (wipe σ vs)[i]? = none := by
  cases e : (wipe σ vs)[i]? with
  | none => exact .inr rfl
  | some o =>
    cases o with
    | none => exact .inl rfl
    | some v => exact absurd h (wipe_some e).2
theorem wipe_all {σ σ' : L2.St} {vs : List Nat} (hl : σ'.length = σ.length) (h : ∀ i, i ∉ vs → σ'[i]? = σ[i]?) : wipe σ' vs = wipe σ vs := by
  apply List.ext_getElem?
  intro i
  by_cases hi : i ∈ vs
  · have l1 := wipe_length σ' vs
    have l2 := wipe_length σ vs
    rcases wipe_get (σ := σ') hi with h1 | h1 <;> rcases wipe_get (σ := σ) hi with h2 | h2
    · rw [h1, h2]
    · have a1 := (List.getElem?_eq_some_iff.mp h1).1
      have a2 := List.getElem?_eq_none_iff.mp h2
      omega
    · have a1 := (List.getElem?_eq_some_iff.mp h2).1
      have a2 := List.getElem?_eq_none_iff.mp h1
      omega
    · rw [h1, h2]
  · rw [wipe_out hi, wipe_out hi]
    exact h i hi
theorem wipe_wipe {σ : L2.St} (vs : List Nat) : wipe (wipe σ vs) vs = wipe σ vs := wipe_all (wipe_length σ vs) fun i hi => wipe_out hi
theorem setAll_len : ∀ (is : List Nat) (vs : List V) (σ : L2.St), (setAll is vs σ).length = σ.length
  | [], _, σ => by unfold setAll; rfl
  | i :: is, [], σ => by unfold setAll; rfl
  | i :: is, v :: vs, σ => by unfold setAll; rw [setAll_len is vs]; simp
theorem setAll_get : ∀ (is : List Nat) (vs : List V) (σ : L2.St) (j : Nat), j ∉ is → (setAll is vs σ)[j]? = σ[j]?
  | [], _, σ, j, _ => by unfold setAll; rfl
  | i :: is, [], σ, j, _ => by unfold setAll; rfl
  | i :: is, v :: vs, σ, j, h => by
    unfold setAll
    rw [setAll_get is vs _ j (fun z => h (List.mem_cons_of_mem _ z)), List.getElem?_set_ne (fun z => h (by subst z; exact List.mem_cons_self))]
theorem tgSt_wipe {tg : Tg} {v : V} {vs : List V} {σ : L2.St} {own : List Nat} (h : ∀ i ∈ tgIx tg, i ∈ own) : wipe (tgSt tg v vs (wipe σ own)) own = wipe σ own := by
  rw [← wipe_wipe (σ := σ) own]
  cases tg with
  | nm i =>
    rw [wipe_wipe]
    refine (wipe_all (σ' := (wipe σ own).set i (some v)) (σ := wipe σ own) (by simp) fun j hj => ?_).trans (wipe_wipe own)
    have hij : i ≠ j := fun z => by subst z; exact hj (h i (by simp [tgIx]))
    rw [List.getElem?_set_ne hij]
  | tp is =>
    rw [wipe_wipe]
    refine (wipe_all (σ' := setAll is vs (wipe σ own)) (σ := wipe σ own) (setAll_len is vs _) fun j hj => ?_).trans (wipe_wipe own)
    exact setAll_get is vs _ j fun z => hj (h j z)
/-- the ifs -/
structure VTs (ca : CA) (W : WX) (X : Cx) (ifs : List Expr) (f : VEnv → Rs Bool) : Prop where
  ex : ∃ t, PTs X ifs t ∧ SndT X.K ca W t f
def bYes : VEnv → Rs Bool := fun _ => .ok true
theorem vts_nil : VTs ca W X [] bYes := ⟨_, pts_nil, fun _ _ _ _ _ _ st p => p _ _ (Grow.refl st.cfg)⟩
theorem vts_one {c : Expr} {t : VEnv → Rs Bool} (h : VT ca W X c t) : VTs ca W X [c] t := by
  obtain ⟨t, pe, se⟩ := h
  exact ⟨_, pts_one pe, se⟩
def lcF (tg : Tg) (t : VEnv → Rs Bool) (fe : VEnv → Rs RV) (env : VEnv) : List PyData → Rs (List PyData)
  | [] => .ok []
  | x :: xs => match tgE tg x env with
    | none => .no
    | some e1 => match t e1 with
      | .ok true => (match fe e1 with
        | .ok r => (match r.toD with
          | some d => (lcF tg t fe env xs).bind fun ds => .ok (d :: ds)
          | none => .no)
        | _ => .no)
      | .ok false => lcF tg t fe env xs
      | _ => .no
theorem lcF_ex {tg : Tg} {t : VEnv → Rs Bool} {fe : VEnv → Rs RV} {env : VEnv} {c : Nat} {fs : List (Str × PyData)} : ∀ xs : List PyData, lcF tg t fe env xs ≠ .ex c fs
  | [], h => by cases h
  | x :: xs, h => by
    have ih := lcF_ex (tg := tg) (t := t) (fe := fe) (env := env) (c := c) (fs := fs) xs
    unfold lcF at h
    split at h
    · cases h
    · split at h
      · split at h
        · split at h
          · cases e : lcF tg t fe env xs with
            | ok ds => rw [e] at h; cases h
            | ex c' fs' => rw [e] at h; simp at h; exact ih (by rw [e, h.1, h.2])
            | no => rw [e] at h; cases h
          · cases h
        · cases h
      · exact ih h
      · cases h
theorem lcF_len {tg : Tg} {t : VEnv → Rs Bool} {fe : VEnv → Rs RV} {env : VEnv} : ∀ (xs ds : List PyData), lcF tg t fe env xs = .ok ds → ds.length ≤ xs.length
  | [], ds, h => by cases h; simp
  | x :: xs, ds, h => by
    unfold lcF at h
    split at h
    · cases h
    · split at h
      · split at h
        · split at h
          · cases e : lcF tg t fe env xs with
            | ok es =>
              rw [e] at h
              have := lcF_len xs es e
              simp at h
              subst h
              simp
              exact this
            | ex c' fs' => rw [e] at h; cases h
            | no => rw [e] at h; cases h
          · cases h
        · cases h
      · have := lcF_len xs ds h
        simp; omega
      · cases h
def cLc (src : VEnv → Rs (List PyData)) (own : List Nat) (tg : Tg) (t : VEnv → Rs Bool) (fe : VEnv → Rs RV) : VEnv → Rs RV := fun env => (src env).bind fun xs => if xs.length ≤ 1000000 then (lcF tg t fe (wipeE env own) xs).bind fun ds => .ok (.ol ds) else .no
theorem million {n : Nat} (h : n ≤ 1000000) : n < sizeLine := Nat.lt_of_le_of_lt h (by decide)
theorem snd_lc {K : PySem.W.Frag} {wi : TI} {tt : TT} {te : TE} {src : VEnv → Rs (List PyData)} {own : List Nat} {tg : Tg} {t : VEnv → Rs Bool} {fe : VEnv → Rs RV} (ho : ∀ i ∈ tgIx tg, i ∈ own) (si : SndJ K ca W wi src) (s1 : SndT K ca W0 tt t) (s2 : SndE K ca W0 te fe) :
    SndE K ca W (tLc wi (tgT K tg) tt te own) (cLc src own tg t fe) := by
  intro B F env σ H Q st p
  refine si B F env σ H _ st ?_
  unfold cLc at p
  cases e : src env with
  | no => rw [e] at p; exact p
  | ex c fs => rw [e] at p; exact p
  | ok xs =>
    rw [e] at p
    simp only [Rs.bind_ok] at p
    split at p
    · rename_i hz
      cases e2 : lcF tg t fe (wipeE env own) xs with
      | no => rw [e2] at p; exact p.elim
      | ex c fs => exact absurd e2 (lcF_ex xs)
      | ok res =>
        rw [e2] at p
        intro J F1 H1 vs g1 d1 jw D nD
        have stw : StOk K ca B F1 (wipeE env own) (wipe σ own) H1 := wipe_ok (st.grow g1) own
        have fD : F1 D = none := same_none g1.cfg.sub nD
        refine ⟨fun i m H => m = vs.length - i ∧ i ≤ vs.length ∧ ∃ F' acc ds rs, Grow F1 H1 F' H ∧ F' D = none ∧ H D = some (.lst acc) ∧ DqA K F' acc ds ∧ lcF tg t fe (wipeE env own) (xs.drop i) = .ok rs ∧ ds ++ rs = res ∧ ds.length ≤ i,
          ⟨_, rfl, Nat.zero_le _, F1, [], [], res, Grow.newO g1.cfg _ nD (fun _ z => by cases z), fD, upd_same, .nil, e2, rfl, Nat.le_refl _⟩, ?_⟩
        rintro i m H2 ⟨rfl, hi, F2, acc, ds, rs, g2, f2, hD, q2, er, es, dl⟩
        by_cases hlt : i < vs.length
        · obtain ⟨x, hx, qx⟩ := DqA.get' d1 (List.getElem?_eq_getElem hlt)
          rw [drop_cons hx] at er
          unfold lcF at er
          refine .inr ⟨jw.go i H2 g2.hh hlt, fun H => i + 1 ≤ vs.length ∧ ∃ F' acc ds rs, Grow F1 H1 F' H ∧ F' D = none ∧ H D = some (.lst acc) ∧ DqA K F' acc ds ∧ lcF tg t fe (wipeE env own) (xs.drop (i + 1)) = .ok rs ∧ ds ++ rs = res ∧ ds.length ≤ i + 1,
            fun H' z => ⟨vs.length - (i + 1), by omega, rfl, z.1, z.2⟩, fun y H' hy => ?_⟩
          obtain ⟨rfl, e5⟩ := jw.yld i H2 y H' g2.hh hy hlt
          rw [List.getElem?_eq_getElem hlt] at e5
          cases e5
          cases e3 : tgE tg x (wipeE env own) with
          | none => rw [e3] at er; cases er
          | some env3 =>
            rw [e3] at er
            simp only at er
            refine snd_tg (stw.grow g2) (qx.mono g2.ff) e3 fun ws st3 => ⟨tgSt_wipe ho, ?_⟩
            refine s1 B F2 env3 _ _ _ st3 ?_
            cases e4 : t env3 with
            | no => rw [e4] at er; cases er
            | ex c fs => rw [e4] at er; cases er
            | ok b =>
              rw [e4] at er
              intro F4 H4 g4
              have f4 : F4 D = none := g4.stillFree f2 hD
              cases b with
              | false =>
                rw [if_neg Bool.false_ne_true]
                exact ⟨hlt, F4, acc, ds, rs, g2.trans g4, f4, g4.hh _ _ hD, DqA.mono g4.ff _ _ q2, er, es, by omega⟩
              | true =>
                rw [if_pos rfl]
                simp only at er
                refine s2 B F4 env3 _ H4 _ (st3.grow g4) ?_
                cases e6 : fe env3 with
                | no => rw [e6] at er; cases er
                | ex c fs => rw [e6] at er; cases er
                | ok r =>
                  rw [e6] at er
                  simp only at er
                  cases e7 : r.toD with
                  | none => rw [e7] at er; cases er
                  | some d =>
                    rw [e7] at er
                    simp only at er
                    cases e8 : lcF tg t fe (wipeE env own) (xs.drop (i + 1)) with
                    | no => rw [e8] at er; cases er
                    | ex c fs => rw [e8] at er; cases er
                    | ok rs' =>
                      rw [e8] at er
                      simp at er
                      intro F6 H6 v6 g6 q6
                      obtain ⟨F7, g7, s7, q7⟩ := frz g6 (Fz.of q6 e7)
                      have g8 : Grow F1 H1 F7 H6 := (g2.trans g4).trans g7
                      have h6 : H6 D = some (.lst acc) := g7.hh _ _ (g4.hh _ _ hD)
                      have f7 : F7 D = none := g7.stillFree f4 (g4.hh _ _ hD)
                      have qa : DqA K F7 acc ds := DqA.mono g7.ff _ _ (DqA.mono g4.ff _ _ q2)
                      have al : acc.length = ds.length := qa.length
                      refine ⟨acc, h6, million (by have := d1.length; omega), hlt, F7, acc ++ [v6], ds ++ [d], rs', g8.write nD f7 h6 (fun _ z => by cases z), f7, upd_same, qa.append (.cons q7 .nil), rfl, ?_, by simp; omega⟩
                      rw [← es, ← er]
                      simp
        · have e5 : i = vs.length := by omega
          subst e5
          rw [List.drop_eq_nil_of_le (by rw [d1.length]; exact Nat.le_refl _)] at er
          cases er
          rw [List.append_nil] at es
          subst es
          exact .inl ⟨jw.stop H2 g2.hh, p F2 H2 (.ref D) (g1.trans g2) ⟨D, acc, rfl, none_n g1.hh nD, f2, hD, q2⟩⟩
    · exact p.elim
/-- the one reading of a semantic function -/
def tU (K : PySem.W.Frag) (ca : CA) (W : WX) (f : VEnv → Rs RV) : TE := fun σ H Q => ∃ B F env, StOk K ca B F env σ H ∧ PostE K ca W σ F H Q (f env)
def tUT (K : PySem.W.Frag) (ca : CA) (W : WX) (f : VEnv → Rs Bool) : TT := fun σ H Q => ∃ B F env, StOk K ca B F env σ H ∧ PostB K ca W σ F H Q (f env)
theorem VE.pe {f : VEnv → Rs RV} (h : VE ca W X e f) : PE X e (tU X.K ca W f) := by
  obtain ⟨t, p, s⟩ := h
  exact ⟨fun pins s0 σ H Q I ⟨B, F, env, st, q⟩ => p.run pins s0 σ H Q I (s B F env σ H Q st q)⟩
theorem VTs.pt {ifs : List Expr} {f : VEnv → Rs Bool} (h : VTs ca W X ifs f) : PTs X ifs (tUT X.K ca W f) := by
  obtain ⟨t, p, s⟩ := h
  exact ⟨fun pins s0 σ H Q I ⟨B, F, env, st, q⟩ => p.run pins s0 σ H Q I (s B F env σ H Q st q)⟩
theorem ve_lc {elt tg iter : Expr} {ifs : List Expr} {scope : Scope} {own : List (Str × Nat)} {src : VEnv → Rs (List PyData)} {g : Tg} {t : VEnv → Rs Bool} {fe : VEnv → Rs RV} (hc : X.calm = true) (hN : X.N.Nodup) (hi : VJ ca W X tg iter src) (ok : BlkOk X.N X.env.scope scope own) (ho : ∀ i ∈ tgIx g, i ∈ own.map (·.2))
    (hg : ∀ (s : Shared) (H : Hp) (C : Addr) (cl : List (Str × Addr)) (fp : List Addr), VG (X.blk s H scope (compEnvC scope cl C X.env) fp) tg g) (ht : ∀ (s : Shared) (H : Hp) (C : Addr) (cl : List (Str × Addr)) (fp : List Addr), VTs ca W0 (X.blk s H scope (compEnvC scope cl C X.env) fp) ifs t)
    (he : ∀ (s : Shared) (H : Hp) (C : Addr) (cl : List (Str × Addr)) (fp : List Addr), VE ca W0 (X.blk s H scope (compEnvC scope cl C X.env) fp) elt fe) (hs : ∀ x, foldedSetIterable iter X.env x = pure x := by intro _; rfl) :
    VE ca W X (.ListComp elt [⟨tg, iter, ifs, 0⟩] scope pos) (cLc src (own.map (·.2)) g t fe) := by
  obtain ⟨wi, pi, si⟩ := hi
  exact ⟨_, pe_lc hc hN pi ok (fun s H C cl fp => (show PG _ tg (tgT X.K g) from (hg s H C cl fp).ex)) (fun s H C cl fp => (show PTs _ ifs (tUT X.K ca W0 t) from (ht s H C cl fp).pt)) (fun s H C cl fp => (show PE _ elt (tU X.K ca W0 fe) from (he s H C cl fp).pe)) hs,
    snd_lc ho si (fun B F env σ H Q st q => ⟨B, F, env, st, q⟩ : SndT X.K ca W0 (tUT X.K ca W0 t) t) (fun B F env σ H Q st q => ⟨B, F, env, st, q⟩ : SndE X.K ca W0 (tU X.K ca W0 fe) fe)⟩
/-- y = [..] on one line -/
theorem vs_setLc {i : Nat} {y : Str} {py : Pos} {elt tg iter : Expr} {ifs : List Expr} {scope : Scope} {own : List (Str × Nat)} {spos : Pos} {src : VEnv → Rs (List PyData)} {g : Tg} {t : VEnv → Rs Bool} {fe : VEnv → Rs RV} (hc : X.calm = true) (hN : X.N.Nodup) (hy : X.N[i]? = some y) (hyl : X.env.scope.names.lookup y = some .local)
    (hsw : swapsWith (.ListComp elt [⟨tg, iter, ifs, 0⟩] scope pos) (some (.Name y py)) spos.line X.env = pure true) (hi : VJ ca W X tg iter src) (ok : BlkOk X.N X.env.scope scope own) (ho : ∀ i ∈ tgIx g, i ∈ own.map (·.2))
    (hg : ∀ (s : Shared) (H : Hp) (C : Addr) (cl : List (Str × Addr)) (fp : List Addr), VG (X.blk s H scope (compEnvC scope cl C X.env) fp) tg g) (ht : ∀ (s : Shared) (H : Hp) (C : Addr) (cl : List (Str × Addr)) (fp : List Addr), VTs ca W0 (X.blk s H scope (compEnvC scope cl C X.env) fp) ifs t)
    (he : ∀ (s : Shared) (H : Hp) (C : Addr) (cl : List (Str × Addr)) (fp : List Addr), VE ca W0 (X.blk s H scope (compEnvC scope cl C X.env) fp) elt fe) (hs : ∀ x, foldedSetIterable iter X.env x = pure x := by intro _; rfl) :
    VS ca W X (.Assign [.Name y py] (.ListComp elt [⟨tg, iter, ifs, 0⟩] scope pos) spos) (sSet i (cLc src (own.map (·.2)) g t fe)) := by
  obtain ⟨wi, pi, si⟩ := hi
  refine ⟨_, ps_setLc hc hN hy hyl hsw pi ok (fun s H C cl fp => (show PG _ tg (tgT X.K g) from (hg s H C cl fp).ex)) (fun s H C cl fp => (show PTs _ ifs (tUT X.K ca W0 t) from (ht s H C cl fp).pt)) (fun s H C cl fp => (show PE _ elt (tU X.K ca W0 fe) from (he s H C cl fp).pe)) hs, fun B F env σ H D st p => ?_⟩
  have se := snd_lc (own := own.map (·.2)) (W := W) ho si (fun B F env σ H Q st q => ⟨B, F, env, st, q⟩ : SndT X.K ca W0 (tUT X.K ca W0 t) t) (fun B F env σ H Q st q => ⟨B, F, env, st, q⟩ : SndE X.K ca W0 (tU X.K ca W0 fe) fe)
  show tLc wi (tgT X.K g) (tUT X.K ca W0 t) (tU X.K ca W0 fe) (own.map (·.2)) σ H fun x H1 => D.nx (σ.set i (some x)) H1
  exact outE se st p fun r F1 H1 v p1 g q => snd_put st g q p1

/-! ## defs -/
/-- what is handed to a def -/
def RV.arg : RV → RV
  | .ol xs => .d (.list xs)
  | .od xs => .bd xs
  | .ot xs => .bt xs
  | .ob _ x fs => .bo x fs
  | r => r
theorem arg1 {K : PySem.W.Frag} {F0 H0 F H F1 : Hp} {v : V} {r : RV} (g1 : Grow F0 H0 F1 H) (s1 : Same F F1) (h1 : RVok K H0 F H v r) : ∃ F', Grow F0 H0 F' H ∧ Same F1 F' ∧ RVok K H F' H v r.arg := by
  cases r with
  | d x => exact ⟨F1, g1, Same.refl _, Dq.mono s1 x v h1⟩
  | ol xs =>
    obtain ⟨F2, g2, s2, q2⟩ := frz g1 ((Fz.of h1 (d := .list xs) rfl).mono s1)
    exact ⟨F2, g2, s2, q2⟩
  | bl xs => obtain ⟨p, ws, e1, hp, q⟩ := h1; exact ⟨F1, g1, Same.refl _, p, ws, e1, hp, DqA.mono s1 _ _ q⟩
  | od xs => obtain ⟨p, ws, e1, _, _, hp, q⟩ := h1; exact ⟨F1, g1, Same.refl _, p, ws, e1, .inl hp, q.mono s1⟩
  | bd xs => obtain ⟨p, ws, e1, hp, q⟩ := h1; exact ⟨F1, g1, Same.refl _, p, ws, e1, hp, q.mono s1⟩
  | ot xs => obtain ⟨p, ws, e1, _, _, hp, q⟩ := h1; exact ⟨F1, g1, Same.refl _, p, ws, e1, hp, q.mono s1⟩
  | bt xs => obtain ⟨p, ws, e1, hp, q⟩ := h1; exact ⟨F1, g1, Same.refl _, p, ws, e1, hp, q.mono s1⟩
  | sc ns => obtain ⟨a, e1, q⟩ := h1; exact ⟨F1, g1, Same.refl _, a, e1, s1.seq q⟩
  | xo a dd c fs => obtain ⟨e1, xs, hp, q⟩ := h1; exact ⟨F1, g1, Same.refl _, e1, xs, hp, q.mono s1⟩
  | t3 x ys kvs => exact ⟨F1, g1, Same.refl _, t3_mono s1 h1⟩
  | fd kvs => exact ⟨F1, g1, Same.refl _, fd_mono s1 h1⟩
  | ob me x fs => obtain ⟨p, e1, h⟩ := h1; exact ⟨F1, g1, Same.refl _, p, e1, h.bo.to s1 rfl fun q _ ws e => e⟩
  | bo x fs => obtain ⟨p, e1, h⟩ := h1; exact ⟨F1, g1, Same.refl _, p, e1, h.to s1 rfl fun q _ ws e => e⟩
theorem arg_own (r : RV) : r.arg.own = false := by cases r <;> rfl
theorem arg_mono {K : PySem.W.Frag} {H F F' : Hp} (s : Same F F') {v : V} {r : RV} (ho : r.own = false) (h : RVok K H F H v r) : RVok K H F' H v r := by
  cases r with
  | d x => exact Dq.mono s x v h
  | bl xs => obtain ⟨p, ws, e1, hp, q⟩ := h; exact ⟨p, ws, e1, hp, DqA.mono s _ _ q⟩
  | bd xs => obtain ⟨p, ws, e1, hp, q⟩ := h; exact ⟨p, ws, e1, hp, q.mono s⟩
  | bt xs => obtain ⟨p, ws, e1, hp, q⟩ := h; exact ⟨p, ws, e1, hp, q.mono s⟩
  | sc ns => obtain ⟨a, e1, q⟩ := h; exact ⟨a, e1, s.seq q⟩
  | xo a dd c fs => obtain ⟨e1, xs, hp, q⟩ := h; exact ⟨e1, xs, hp, q.mono s⟩
  | t3 x ys kvs => exact t3_mono s h
  | fd kvs => exact fd_mono s h
  | bo x fs => obtain ⟨p, e1, h⟩ := h; exact ⟨p, e1, h.to s rfl fun q _ ws e => e⟩
  | _ => cases ho
theorem args_go {K : PySem.W.Frag} {F0 H0 F H : Hp} : ∀ {vs : List V} {rs : List RV} {F1 : Hp}, Grow F0 H0 F1 H → Same F F1 → Paired (fun v r => RVok K H0 F H v r) vs rs →
    ∃ F', Grow F0 H0 F' H ∧ Same F1 F' ∧ Paired (fun v r => RVok K H F' H v r) vs (rs.map RV.arg)
  | _, _, F1, g, s, .nil => ⟨F1, g, Same.refl _, .nil⟩
  | _, _, F1, g, s, .cons (b := r) h1 h2 => by
    obtain ⟨F2, g2, s2, q2⟩ := arg1 g s h1
    obtain ⟨F3, g3, s3, q3⟩ := args_go g2 (s.trans s2) h2
    exact ⟨F3, g3, s2.trans s3, .cons (arg_mono s3 (arg_own r) q2) q3⟩
/-- a def's promise -/
def PostF (K : PySem.W.Frag) (ca : CA) (G H : Hp) (Q : VK) (E : XK) : Rs RV → Prop
  | .ok r => ∀ G' H' v, Grow G H G' H' → RVok K H G' H' v r → Q v H'
  | .ex c fs => ∀ G' H' cls dx, Grow G H G' H' → ExOk K ca G' H' cls dx c fs → E cls dx H'
  | .no => False
def spV (K : PySem.W.Frag) (ca : CA) (n : Nat) (F : List RV → Rs RV) : Sp := fun vs H Q E => vs.length = n ∧ ∃ G rs, Cfg G H ∧ TabOk ca.T G H ∧ Paired (fun v r => RVok K H G H v r) vs rs ∧ PostF K ca G H Q E (F rs)
/-- the semantic function of a def out of that of its body; n: its slots -/
def Out.fin : Out → Rs RV
  | .nx _ => .ok (.d .none)
  | .rt r => .ok r
  | .ex c fs _ => .ex c fs
  | _ => .no
def fnD (n : Nat) (body : VEnv → Out) : List RV → Rs RV := fun rs => (body (rs.map some ++ List.replicate (n - rs.length) none)).fin
theorem start_ok {K : PySem.W.Frag} {ca : CA} {G H : Hp} {vs : List V} {rs : List RV} (N : List Str) (c : Cfg G H) (tb : TabOk ca.T G H) (h : Paired (fun v r => RVok K H G H v r) vs rs) : StOk K ca { F := G, H := H } G (rs.map some ++ List.replicate (N.length - rs.length) none) (start N vs) H := by
  have hl : vs.length = rs.length := Paired.length h
  have get : ∀ (i : Nat) (r : RV), (rs.map some ++ List.replicate (N.length - rs.length) none)[i]? = some (some r) → ∃ v, (start N vs)[i]? = some (some v) ∧ RVok K H G H v r := by
    intro i r e
    by_cases hi : i < rs.length
    · rw [List.getElem?_append_left (by simpa using hi), List.getElem?_map] at e
      have e1 : rs[i]? = some r := by
        cases z : rs[i]? with
        | none => rw [z] at e; cases e
        | some y => rw [z] at e; cases e; rfl
      have go : ∀ {vs : List V} {rs : List RV} {i : Nat}, Paired (fun v r => RVok K H G H v r) vs rs → rs[i]? = some r → ∃ v, vs[i]? = some v ∧ RVok K H G H v r := by
        intro vs rs i h
        induction h generalizing i with
        | nil => intro e; simp at e
        | cons h1 h2 ih => intro e; cases i with
          | zero => simp at e; subst e; exact ⟨_, rfl, h1⟩
          | succ i => obtain ⟨v, q1, q2⟩ := ih (i := i) (by simpa using e); exact ⟨v, by simpa using q1, q2⟩
      obtain ⟨v, q1, q2⟩ := go h e1
      refine ⟨v, ?_, q2⟩
      unfold L2.start
      rw [List.getElem?_append_left (by simpa using (by omega : i < vs.length)), List.getElem?_map, q1]
      rfl
    · rw [List.getElem?_append_right (by simpa using Nat.le_of_not_lt hi), List.getElem?_replicate] at e
      split at e
      · cases e
      · cases e
  have noOwn : ∀ (i : Nat) (r : RV), (rs.map some ++ List.replicate (N.length - rs.length) none)[i]? = some (some r) → r.own = true → False := by
    intro i r e o
    obtain ⟨v, _, q⟩ := get i r e
    cases r with
    | ol xs => obtain ⟨p, ws, _, n, _, hp, _⟩ := q; rw [n] at hp; cases hp
    | od xs => obtain ⟨p, ws, _, n, _, hp, _⟩ := q; rw [n] at hp; cases hp
    | ot xs => obtain ⟨p, ws, _, n, _, hp, _⟩ := q; rw [n] at hp; cases hp
    | ob me x fs => obtain ⟨p, _, C, dx, ws, _, hp, n, _⟩ := q; rw [n] at hp; cases hp
    | _ => cases o
  refine ⟨Grow.refl c, ?_, get, fun i r p e o z => ?_, fun i j r r' p _ e _ o _ _ => (noOwn i r e o).elim,
    ⟨tb, fun i j p q me x fs r e _ _ _ _ => (noOwn i _ e rfl).elim, fun i j p p' q me me' x x' fs fs' _ e _ _ _ _ => (noOwn i _ e rfl).elim, fun i p q x fs e z hq => ?_, fun i x fs e => (noOwn i _ e rfl).elim⟩⟩
  rotate_left
  · obtain ⟨v, e1, q⟩ := get i r e
    rw [z] at e1
    cases e1
    cases r with
    | bl xs => obtain ⟨a, ws, e2, hp, _⟩ := q; cases e2; exact ⟨_, hp⟩
    | bd xs =>
      obtain ⟨a, ws, e2, hp, _⟩ := q
      cases e2
      rcases hp with hp | ⟨o, hp⟩
      · exact ⟨_, hp⟩
      · exact ⟨_, hp⟩
    | bt xs => obtain ⟨a, ws, e2, hp, _⟩ := q; cases e2; exact ⟨_, hp⟩
    | bo x fs => obtain ⟨a, e2, C, dx, ws, _, hp, _⟩ := q; cases e2; exact ⟨_, hp⟩
    | _ => cases o
  · obtain ⟨v, e1, a, ev, h⟩ := get i _ e
    rw [z] at e1
    subst ev
    cases e1
    obtain ⟨ws, hl⟩ := h.at hq
    exact ⟨_, hl⟩
  unfold L2.start
  simp [hl]
theorem fn_ok {P : Program} {w : World} {K : PySem.W.Frag} {mg : Str → Option Value} {base : Heap} {x qual : Str} {sd : Stmt} {fA : Addr} {fd : FuncData} {N ps : List Str} {k : Nat} {body : VEnv → Out} (F : Fun K x qual sd fA fd) (S : FnScope N ps (defScope sd))
    (hb : ∀ (cdv : Value) (A : Around) (outer : List PySem.Env) (s : Shared) (H : Hp) (E : XK), Room k (A.deeper (envOfC qual (defScope sd) s.heap.objs.size fA cdv)) → Takes (cxOf (L2.CX P w) P w K mg base N qual (defScope sd) fA cdv A outer s H E) (fun cls dx _ H' => E cls dx H') →
      PassesOwn (model P w) (A.deeper (envOfC qual (defScope sd) s.heap.objs.size fA cdv)) (envOfC qual (defScope sd) s.heap.objs.size fA cdv) (cxOf (L2.CX P w) P w K mg base N qual (defScope sd) fA cdv A outer s H E).xe →
      VSs ca (fun cls dx _ H' => E cls dx H') (cxOf (L2.CX P w) P w K mg base N qual (defScope sd) fA cdv A outer s H E) (defBody sd) body) : FnOk P w K mg base (L2.CX P w) (k + 1) fA fd ps (spV K ca ps.length (fnD N.length body)) := by
  refine F.okX S (fun vs H Q E h => h.1) (fun cdv A outer s H vs Q E hr h => ?_)
  obtain ⟨hl, G, rs, c, tb, pr, q⟩ := h
  obtain ⟨t, p, sn⟩ := hb cdv A outer s H E hr (takes_of rfl rfl rfl rfl) (passes_of rfl)
  refine ⟨t, p, sn { F := G, H := H } G _ _ H _ (start_ok N c tb pr) ?_⟩
  unfold fnD at q
  generalize hB : body (rs.map some ++ List.replicate (N.length - rs.length) none) = o at q ⊢
  cases o with
  | nx env => exact fun F' σ' H' s st => q F' H' .non st.gr .non
  | rt r => exact fun F' H' v g r => q F' H' v g r
  | rm o d => exact q.elim
  | ex c fs env => exact fun F' σ' H' cls dx s st x => q F' H' cls dx st.gr x
  | bk env => exact q.elim
  | ct env => exact q.elim
  | no => exact q.elim
/-- f(e, ..) -/
theorem ve_call {fA : Addr} {fd : FuncData} {ps : List Str} {x : Str} {p : Pos} {k n : Nat} {G : List RV → Rs RV} {f : VEnv → Rs (List RV)} (Fo : FnOk X.prog X.w X.K X.mg X.base (L2.CX X.prog X.w) k fA fd ps (spV X.K ca n G)) (hr : Room k X.A) (hg : Gl X x) (hm : X.mg x = some (.ref fA)) (hk : PySem.W.keepIn X.K (.ref fA) = true) (hb : Binds X.K fd ps []) (tk : Takes X W)
    (ha : VA ca W X (e :: es) f) (hn : (e :: es).length = n := by rfl) (hdb : (x == ("__debug__" : Str)) = false := by decide) (he : starEach (e :: es) X.env = (false, eval e X.env) :: starEach es X.env := by rfl) (hpl : (backTo pos (starEach es X.env)).any (·.1) = false := by rfl) :
    VE ca W X (.Call (.Name x p) (e :: es) [] pos) (cA (fun rs => if rs.length = n then G (rs.map RV.arg) else .no) f) := by
  obtain ⟨t, pa, sa⟩ := ha
  refine ⟨_, pe_callSD Fo hr hg hm hk hb .nil (fun σ => passAt tk σ) pa hdb he hpl, fun B F env σ H Q st q => ?_⟩
  show t σ H fun vs H1 => spV X.K ca n G (vs ++ []) H1 Q (WE W σ)
  refine seqA (PostE X.K ca W σ F H Q) sa st q (fun _ _ h => h) (fun h => h) fun rs F1 H1 vs p1 g1 q1 => ?_
  rw [List.append_nil]
  split at p1
  · rename_i hl
    obtain ⟨F2, g2, s2, q2⟩ := args_go g1 (Same.refl _) q1
    refine ⟨by rw [Paired.length q1, hl], F2, _, g2.cfg, st.rg.tb.grow g2, q2, ?_⟩
    cases e1 : G (rs.map RV.arg) with
    | ok r => rw [e1] at p1; exact fun G' H' v gg rr => p1 G' H' v (g2.trans gg) (rr.older g2.hh)
    | ex c fs => rw [e1] at p1; exact fun G' H' cls dx gg x => p1 G' H' cls dx (g2.trans gg) x
    | no => rw [e1] at p1; exact p1
  · exact p1.elim
end
end VL

namespace VL
open PySem PySem.Spec PyProof.Rows L2

/-! ## reading values -/
def RV.lv : RV → Option (List PyData)
  | .d (.list xs) => some xs
  | .ol xs => some xs
  | .bl xs => some xs
  | _ => none
def RV.qv : RV → Option (List PyData)
  | .sc ns => some (ns.map .int)
  | r => r.lv
def RV.tv : RV → Option (List PyData)
  | .d (.tuple xs) => some xs
  | _ => none
def RV.data : RV → Option PyData
  | .d x => some x
  | .ol xs => some (.list xs)
  | .bl xs => some (.list xs)
  | .sc ns => some (.list (ns.map .int))
  | _ => none
section
variable {K : PySem.W.Frag} {ca : CA} {H0 F H : Hp} {v : V} {r : RV} {xs : List PyData}
theorem lv_ok (s : Same F H) (h : RVok K H0 F H v r) (e : r.lv = some xs) : ∃ p vs, v = .ref p ∧ H p = some (.lst vs) ∧ DqA K F vs xs := by
  cases r with
  | d x =>
    cases x with
    | list ys => cases e; cases h with
      | lst h1 h2 => exact ⟨_, _, rfl, s _ _ h1, h2⟩
    | _ => cases e
  | ol ys => cases e; obtain ⟨p, vs, e1, _, _, hp, q⟩ := h; exact ⟨p, vs, e1, hp, q⟩
  | bl ys => cases e; obtain ⟨p, vs, e1, hp, q⟩ := h; exact ⟨p, vs, e1, hp, q⟩
  | _ => cases e
theorem qv_ok (s : Same F H) (h : RVok K H0 F H v r) (e : r.qv = some xs) : ∃ p vs, v = .ref p ∧ SqL K H p vs ∧ DqA K F vs xs := by
  cases r with
  | sc ns => cases e; obtain ⟨a, e1, q⟩ := h; exact ⟨a, _, e1, s.seq q, DqA.of_ints ns⟩
  | d x => obtain ⟨p, vs, e1, hp, q⟩ := lv_ok s h e; exact ⟨p, vs, e1, SqL.of hp, q⟩
  | ol x => obtain ⟨p, vs, e1, hp, q⟩ := lv_ok s h e; exact ⟨p, vs, e1, SqL.of hp, q⟩
  | bl x => obtain ⟨p, vs, e1, hp, q⟩ := lv_ok s h e; exact ⟨p, vs, e1, SqL.of hp, q⟩
  | _ => cases e
theorem tv_ok (s : Same F H) (h : RVok K H0 F H v r) (e : r.tv = some xs) : ∃ p vs, v = .ref p ∧ SqT K H p vs ∧ SqN K F p vs ∧ DqA K F vs xs := by
  cases r with
  | d x =>
    cases x with
    | tuple ys => cases e; cases h with
      | tup h1 h2 => exact ⟨_, _, rfl, same_seqT s h1.1, h1, h2⟩
    | _ => cases e
  | _ => cases e
theorem data_ok {x : PyData} (s : Same F H) (h : RVok K H0 F H v r) (e : r.data = some x) : Dp K H v x := by
  cases r with
  | d y => cases e; exact Dq.dp x v (Dq.mono s x v h)
  | ol ys => cases e; obtain ⟨p, vs, e1, _, _, hp, q⟩ := h; subst e1; exact .lst (SqL.of hp) (DqA.dp _ _ (DqA.mono s _ _ q))
  | bl ys => cases e; obtain ⟨p, vs, e1, hp, q⟩ := h; subst e1; exact .lst (SqL.of hp) (DqA.dp _ _ (DqA.mono s _ _ q))
  | sc ns => cases e; obtain ⟨a, e1, q⟩ := h; subst e1; exact .lst (s.seq q) (DqA.dp _ _ (DqA.of_ints (F := H) ns))
  | _ => cases e
theorem atI_dq {vs : List V} {i : Int} {d : PyData} (h : DqA K F vs xs) (e : atI xs i = some d) : ∃ w, atI vs i = some w ∧ Dq K F w d := by
  unfold atI at e ⊢
  rw [h.length]
  cases z : ixN xs.length i with
  | none => rw [z] at e; cases e
  | some j => rw [z] at e; exact h.get e
instance dCMul (i j : Int) : Decidable (CMul i j) := inferInstanceAs (Decidable ((-(2 ^ 64) < i ∧ i < 2 ^ 64) ∨ (-(2 ^ 64) < j ∧ j < 2 ^ 64)))
instance dCDiv (i j : Int) : Decidable (CDiv i j) := inferInstanceAs (Decidable (0 < j ∧ j < 1073741824))
instance dCPow (i j : Int) : Decidable (CPow i j) := inferInstanceAs (Decidable (0 ≤ j ∧ j ≤ 1000000 ∧ i.natAbs < 2 ^ 64))
/-! ### numbers -/
def RV.i2 (f : Int → Int → Rs RV) : RV → RV → Rs RV
  | .d (.int i), .d (.int j) => f i j
  | _, _ => .no
def okI (i : Int) : Rs RV := .ok (.d (.int i))
def okB (b : Bool) : Rs RV := .ok (.d (.bool b))
theorem snd_i2 {C : Int → Int → Prop} [∀ i j, Decidable (C i j)] {g : Int → Int → Int} : Op2S K ca (rI C fun i j => .int (g i j)) (RV.i2 fun i j => if C i j then okI (g i j) else .no) := by
  intro W σ F0 H0 F H v1 v2 a b Q gr h1 h2 p
  cases a with
  | d x => cases b with
    | d y => cases x with
      | int i => cases y with
        | int j =>
          cases h1; cases h2
          simp only [RV.i2] at p
          split at p
          · rename_i c; exact ⟨i, j, rfl, rfl, c, p F H _ gr (.int _)⟩
          · exact p.elim
        | _ => exact p.elim
      | _ => exact p.elim
    | _ => cases x <;> exact p.elim
  | _ => exact p.elim
theorem snd_i20 {g : Int → Int → V} {g' : Int → Int → PyData} (hg : ∀ (F : Hp) i j, Dq K F (g i j) (g' i j)) : Op2S K ca (rI0 g) (RV.i2 fun i j => .ok (.d (g' i j))) := by
  intro W σ F0 H0 F H v1 v2 a b Q gr h1 h2 p
  cases a with
  | d x => cases b with
    | d y => cases x with
      | int i => cases y with
        | int j => cases h1; cases h2; exact ⟨i, j, rfl, rfl, p F H _ gr (hg _ _ _)⟩
        | _ => exact p.elim
      | _ => exact p.elim
    | _ => cases x <;> exact p.elim
  | _ => exact p.elim
def gSub := RV.i2 fun i j => okI (i - j)
def gMul := RV.i2 fun i j => if i.natAbs < 18446744073709551616 ∨ j.natAbs < 18446744073709551616 then okI (i * j) else .no
def gMod := RV.i2 fun i j => if 0 < j then okI (i % j) else .no
def gDiv := RV.i2 fun i j => if 0 < j ∧ j.natAbs < 1073741824 then okI (i / j) else .no
def gPow := RV.i2 fun i j => if 0 ≤ j ∧ j ≤ 1000000 ∧ i.natAbs < 2 ^ 64 then okI (i ^ j.toNat) else .no
def gLt := RV.i2 fun i j => okB (decide (i < j))
def gLe := RV.i2 fun i j => okB (decide (i ≤ j))
def gGt := RV.i2 fun i j => okB (decide (j < i))
def gGe := RV.i2 fun i j => okB (decide (j ≤ i))
theorem s_sub : Op2S K ca (rI0 fun i j => .int (i - j)) gSub := snd_i20 fun _ _ _ => .int _
theorem rI_weak {C C' : Int → Int → Prop} {g : Int → Int → V} {G : RV → RV → Rs RV} (h : ∀ i j, C i j → C' i j) (s : Op2S K ca (rI C g) G) : Op2S K ca (rI C' g) G := by
  intro W σ F0 H0 F H v1 v2 a b Q gr h1 h2 p
  obtain ⟨i, j, e1, e2, c, q⟩ := s W σ F0 H0 F H v1 v2 a b Q gr h1 h2 p
  exact ⟨i, j, e1, e2, h i j c, q⟩
theorem s_div : Op2S K ca (rI CDiv fun i j => .int (i / j)) gDiv :=
  rI_weak (C := fun i j => 0 < j ∧ j.natAbs < 1073741824) (fun i j h => by unfold CDiv; omega) snd_i2
theorem s_mul : Op2S K ca (rI CMul fun i j => .int (i * j)) gMul :=
  rI_weak (C := fun i j => i.natAbs < 18446744073709551616 ∨ j.natAbs < 18446744073709551616) (fun i j h => by unfold CMul; omega) snd_i2
theorem s_mod : Op2S K ca (rI (fun _ j => 0 < j) fun i j => .int (i % j)) gMod := snd_i2
theorem s_pow : Op2S K ca (rI CPow fun i j => .int (i ^ j.toNat)) gPow := by
  exact snd_i2 (C := CPow)
theorem s_lt : Op2S K ca (rI0 fun i j => .bl (decide (i < j))) gLt := snd_i20 fun _ _ _ => .bl _
theorem s_le : Op2S K ca (rI0 fun i j => .bl (decide (i ≤ j))) gLe := snd_i20 fun _ _ _ => .bl _
theorem s_gt : Op2S K ca (rI0 fun i j => .bl (decide (j < i))) gGt := snd_i20 fun _ _ _ => .bl _
theorem s_ge : Op2S K ca (rI0 fun i j => .bl (decide (j ≤ i))) gGe := snd_i20 fun _ _ _ => .bl _
def gNeg : RV → Rs RV
  | .d (.int i) => okI (-i)
  | _ => .no
theorem s_neg : Op1S K ca (rU fun i => .int (-i)) gNeg := by
  intro W σ F0 H0 F H v a Q gr h p
  cases a with
  | d x => cases x with
    | int i => cases h; exact ⟨i, rfl, p F H _ gr (.int _)⟩
    | _ => exact p.elim
  | _ => exact p.elim
/-! ### + -/
def rOr (r r' : R2) : R2 := fun x y H Q => r x y H Q ∨ r' x y H Q
theorem op_or' {X : Cx} {f : Value → Value → Sem Value} {r r' : R2} (h : OpR X f r) (h' : OpR X f r') : OpR X f (rOr r r') := by
  intro pins s σ H x y v u Q I rx ry q
  rcases q with q | q
  · exact h pins s σ H x y v u Q I rx ry q
  · exact h' pins s σ H x y v u Q I rx ry q
abbrev rStr : R2 := fun x y H Q => ∃ i j, x = .str i ∧ y = .str j ∧ i.length + j.length ≤ sizeLine ∧ Q (.str (i ++ j)) H
/-- t + u, what comes known to have no dict -/
def rCatN (K : PySem.W.Frag) : R2 := fun x y H Q => ∃ a b xs ys, x = .ref a ∧ y = .ref b ∧ SqT K H a xs ∧ SqT K H b ys ∧ xs.length + ys.length ≤ sizeLine ∧
  (xs = [] → Q (.ref b) H) ∧ (xs ≠ [] → ys = [] → Q (.ref a) H) ∧ (xs ≠ [] → ys ≠ [] → ∀ (o : Obj) p, o.dict = none → H p = none → Q (.ref p) (upd H p (.frz o (.tup (xs ++ ys)))))
theorem op_catN {X : Cx} : OpR X (binaryOp .Add) (rCatN X.K) := by
  intro pins s σ H x y v u Q I rx ry h
  obtain ⟨a, b, xs, ys, rfl, rfl, ha, hb, hz, k0, k1, k2⟩ := h
  cases rx
  cases ry
  obtain ⟨is1, r1, t1, _⟩ := I.tuple ha
  obtain ⟨is2, r2, t2, _⟩ := I.tuple hb
  by_cases hx : xs = []
  · subst hx
    cases r1
    exact cat_tup0 t1 t2 ⟨.ref b, H, I, rfl, k0 rfl⟩
  · refine HT.cat_tup t1 t2 (fun z => hx (r1.nil_iff.mp z)) (fun z => ⟨.ref a, H, I, rfl, k1 hx (r2.nil_iff.mp z)⟩) (fun z => ?_) (by rw [← r1.length, ← r2.length]; exact hz)
    have nn : H s.heap.objs.size = none := I.hok.fresh (Nat.le_refl _)
    refine ⟨.ref s.heap.objs.size, _, I.laid (t' := s.toks) (o := .frz _ (.tup (xs ++ ys))) (fun _ _ q => Heap.get?_push_of_some _ q) (Nat.le_refl _) ⟨Heap.get?_push_size _ rfl, ?_⟩, rfl, k2 hx (fun w => z (r2.nil_iff.mpr w)) _ _ rfl nn⟩
    exact ⟨by rw [List.length_append]; exact hz, _, r1.append r2, _, Heap.get?_push_size _ rfl, rfl, _, rfl⟩
def rAddA (K : PySem.W.Frag) : R2 := rOr (rI0 fun i j => .int (i + j)) (rOr rStr (rOr rCat (rCatN K)))
theorem op_addA {X : Cx} : OpR X (binaryOp .Add) (rAddA X.K) := op_or' op_add (op_or' op_add_str (op_or' op_cat op_catN))
def gAdd (a b : RV) : Rs RV := match a, b with
  | .d (.int i), .d (.int j) => okI (i + j)
  | .d (.str x), .d (.str y) => if x.length + y.length ≤ 1000000 then .ok (.d (.str (x ++ y))) else .no
  | .d (.tuple xs), .d (.tuple ys) => if xs.length + ys.length ≤ 1000000 then .ok (.d (.tuple (xs ++ ys))) else .no
  | a, b => match a.lv, b.lv with
    | some xs, some ys => if xs.length + ys.length ≤ 1000000 then .ok (.ol (xs ++ ys)) else .no
    | _, _ => .no
theorem gAdd_lv {xs ys : List PyData} {a b : RV} (e1 : a.lv = some xs) (e2 : b.lv = some ys) : gAdd a b = if xs.length + ys.length ≤ 1000000 then .ok (.ol (xs ++ ys)) else .no := by
  unfold gAdd
  split
  · cases e1
  · cases e1
  · cases e1
  · rw [e1, e2]
theorem s_add : Op2S K ca (rAddA K) gAdd := by
  intro W σ F0 H0 F H v1 v2 a b Q gr h1 h2 p
  unfold gAdd at p
  split at p
  · cases h1; cases h2; exact .inl ⟨_, _, rfl, rfl, p F H _ gr (.int _)⟩
  · cases h1; cases h2
    split at p
    · rename_i hz
      exact .inr (.inl ⟨_, _, rfl, rfl, Nat.le_of_lt (million hz), p F H _ gr (.str _)⟩)
    · exact p.elim
  · split at p
    · rename_i xs ys hz
      obtain ⟨p1, vs, rfl, a1, a1', q1⟩ := tv_ok gr.cfg.sub h1 rfl
      obtain ⟨p2, ws, rfl, a2, a2', q2⟩ := tv_ok gr.cfg.sub h2 rfl
      refine .inr (.inr (.inr ⟨p1, p2, vs, ws, rfl, rfl, a1, a2, ?_, fun e => ?_, fun e e' => ?_, fun e e' o l no hl => ?_⟩))
      · rw [q1.length, q2.length]; exact Nat.le_of_lt (million hz)
      · subst e
        have : xs = [] := by have := q1.length; cases xs with
          | nil => rfl
          | cons _ _ => simp at this
        subst this
        exact p F H _ gr (.tup a2' q2)
      · subst e'
        have : ys = [] := by have := q2.length; cases ys with
          | nil => rfl
          | cons _ _ => simp at this
        subst this
        exact p F H _ gr (by rw [List.append_nil]; exact .tup a1' q1)
      · have g2 := Grow.newF gr.cfg (.frz o (.tup (vs ++ ws))) hl
        exact p _ _ _ (gr.trans g2) (.tup (.frz no upd_same) ((DqA.mono g2.ff _ _ q1).append (DqA.mono g2.ff _ _ q2)))
    · exact p.elim
  · split at p
    · rename_i xs ys e1 e2
      split at p
      · rename_i hz
        obtain ⟨p1, vs, rfl, a1, q1⟩ := lv_ok gr.cfg.sub h1 e1
        obtain ⟨p2, ws, rfl, a2, q2⟩ := lv_ok gr.cfg.sub h2 e2
        refine .inr (.inr (.inl ⟨p1, p2, vs, ws, rfl, rfl, a1, a2, ?_, fun l hl => ?_⟩))
        · rw [q1.length, q2.length]; exact Nat.le_of_lt (million hz)
        · have g2 := Grow.newO gr.cfg (.lst (vs ++ ws)) hl (fun _ z => by cases z)
          exact p _ _ _ (gr.trans g2) ⟨l, _, rfl, none_n gr.hh hl, same_none gr.cfg.sub hl, upd_same, q1.append q2⟩
      · exact p.elim
    · exact p.elim
/-! ### == and in -/
def gEq (a b : RV) : Rs RV := (rsO a.data).bind fun x => (rsO b.data).bind fun y => if SeqAt.shaped x = true ∧ SeqAt.shaped y = true then okB (PyData.eqv x y) else .no
def gNe (a b : RV) : Rs RV := (rsO a.data).bind fun x => (rsO b.data).bind fun y => if SeqAt.shaped x = true ∧ SeqAt.shaped y = true then okB (!PyData.eqv x y) else .no
theorem s_eq : Op2S K ca (rEqD K) gEq := by
  intro W σ F0 H0 F H v1 v2 a b Q gr h1 h2 p
  unfold gEq at p
  cases e1 : a.data with
  | none => rw [e1] at p; exact p.elim
  | some x => cases e2 : b.data with
    | none => rw [e1, e2] at p; exact p.elim
    | some y =>
      rw [e1, e2] at p
      simp only [rsO_some, Rs.bind_ok] at p
      split at p
      · rename_i s; exact ⟨x, y, data_ok gr.cfg.sub h1 e1, data_ok gr.cfg.sub h2 e2, s.1, s.2, p F H _ gr (.bl _)⟩
      · exact p.elim
theorem s_ne : Op2S K ca (rNeD K) gNe := by
  intro W σ F0 H0 F H v1 v2 a b Q gr h1 h2 p
  unfold gNe at p
  cases e1 : a.data with
  | none => rw [e1] at p; exact p.elim
  | some x => cases e2 : b.data with
    | none => rw [e1, e2] at p; exact p.elim
    | some y =>
      rw [e1, e2] at p
      simp only [rsO_some, Rs.bind_ok] at p
      split at p
      · rename_i s; exact ⟨x, y, data_ok gr.cfg.sub h1 e1, data_ok gr.cfg.sub h2 e2, s.1, s.2, p F H _ gr (.bl _)⟩
      · exact p.elim
def rInT (K : PySem.W.Frag) : R2 := fun x y H Q => ∃ d ds, Dp K H x d ∧ Dp K H y (.tuple ds) ∧ SeqAt.shaped d = true ∧ SeqAt.shaped (.tuple ds) = true ∧ Q (.bl (ds.any fun z => PyData.eqv z d)) H
def rNotInT (K : PySem.W.Frag) : R2 := fun x y H Q => ∃ d ds, Dp K H x d ∧ Dp K H y (.tuple ds) ∧ SeqAt.shaped d = true ∧ SeqAt.shaped (.tuple ds) = true ∧ Q (.bl (!ds.any fun z => PyData.eqv z d)) H
theorem op_inT {X : Cx} (hu : X.A.units + 65 < cLine) : OpR X (compareOp .In) (rInT X.K) := by
  intro pins s σ H x y v u Q I rx ry h
  obtain ⟨d, ds, hd, he, sd, se, q⟩ := h
  obtain ⟨as, r1⟩ := Dp.reads I d x v hd rx
  obtain ⟨bs, r2⟩ := Dp.reads I (.tuple ds) y u he ry
  exact SeqAt.in_tuple_reads r2 r1 (SeqAt.canLay_of_shaped se) (SeqAt.canLay_of_shaped sd) (PyProof.Rows.room_in_shaped sd hu) ⟨.bl _, H, I, rfl, q⟩
theorem op_notInT {X : Cx} (hu : X.A.units + 65 < cLine) : OpR X (compareOp .NotIn) (rNotInT X.K) := by
  intro pins s σ H x y v u Q I rx ry h
  obtain ⟨d, ds, hd, he, sd, se, q⟩ := h
  obtain ⟨as, r1⟩ := Dp.reads I d x v hd rx
  obtain ⟨bs, r2⟩ := Dp.reads I (.tuple ds) y u he ry
  exact SeqAt.notIn_tuple_reads r2 r1 (SeqAt.canLay_of_shaped se) (SeqAt.canLay_of_shaped sd) (PyProof.Rows.room_in_shaped sd hu) ⟨.bl _, H, I, rfl, q⟩
abbrev rSubS : R2 := fun x y H Q => ∃ i j, x = .str i ∧ y = .str j ∧ Q (.bl (!(Builtin.Str.occurrences j i 0 j.length 1).isEmpty)) H
abbrev rNSubS : R2 := fun x y H Q => ∃ i j, x = .str i ∧ y = .str j ∧ Q (.bl (!(!(Builtin.Str.occurrences j i 0 j.length 1).isEmpty))) H
def rInA (K : PySem.W.Frag) : R2 := rOr (rInD K) (rOr (rInT K) rSubS)
def rNotInA (K : PySem.W.Frag) : R2 := rOr (rNotInD K) (rOr (rNotInT K) rNSubS)
theorem op_inA {X : Cx} (hu : X.A.units + 65 < cLine) : OpR X (compareOp .In) (rInA X.K) := op_or' (op_inD hu) (op_or' (op_inT hu) op_in_str)
theorem op_notInA {X : Cx} (hu : X.A.units + 65 < cLine) : OpR X (compareOp .NotIn) (rNotInA X.K) := op_or' (op_notInD hu) (op_or' (op_notInT hu) op_notin_str)
theorem hu65 {A : Around} {k : Nat} (hr : Room k A) : A.units + 65 < cLine := by have := hr.un; omega
def gInB (a b : RV) : Rs Bool := match a, b with
  | .d (.str x), .d (.str y) => .ok (!(Builtin.Str.occurrences y x 0 y.length 1).isEmpty)
  | a, .d (.tuple ds) => (rsO a.data).bind fun x => if SeqAt.shaped x = true ∧ SeqAt.shaped (.tuple ds) = true then .ok (ds.any fun z => PyData.eqv z x) else .no
  | a, b => (rsO a.data).bind fun x => (rsO b.data).bind fun y => match y with
    | .list ds => if SeqAt.shaped x = true ∧ SeqAt.shaped (.list ds) = true then .ok (ds.any fun z => PyData.eqv z x) else .no
    | _ => .no
def gIn (a b : RV) : Rs RV := (gInB a b).bind okB
def gNotIn (a b : RV) : Rs RV := (gInB a b).bind fun k => okB (!k)
theorem gInB_sound {v1 v2 : V} {a b : RV} {α : Type} {P : Rs α → Prop} {k : Bool → Rs α} (s : Same F H) (h1 : RVok K H0 F H v1 a) (h2 : RVok K H0 F H v2 b) (hn : ¬ P .no) (p : P ((gInB a b).bind k)) :
    (∃ d ds, Dp K H v1 d ∧ Dp K H v2 (.list ds) ∧ SeqAt.shaped d = true ∧ SeqAt.shaped (.list ds) = true ∧ P (k (ds.any fun z => PyData.eqv z d))) ∨
    (∃ d ds, Dp K H v1 d ∧ Dp K H v2 (.tuple ds) ∧ SeqAt.shaped d = true ∧ SeqAt.shaped (.tuple ds) = true ∧ P (k (ds.any fun z => PyData.eqv z d))) ∨
    ∃ i j, v1 = .str i ∧ v2 = .str j ∧ P (k (!(Builtin.Str.occurrences j i 0 j.length 1).isEmpty)) := by
  unfold gInB at p
  split at p
  · cases h1; cases h2; exact .inr (.inr ⟨_, _, rfl, rfl, p⟩)
  · rename_i ds
    cases e1 : a.data with
    | none => rw [e1] at p; exact absurd p hn
    | some x =>
      rw [e1] at p
      simp only [rsO_some, Rs.bind_ok] at p
      split at p
      · rename_i z; exact .inr (.inl ⟨x, ds, data_ok s h1 e1, data_ok s h2 rfl, z.1, z.2, p⟩)
      · exact absurd p hn
  · cases e1 : a.data with
    | none => rw [e1] at p; exact absurd p hn
    | some x => cases e2 : b.data with
      | none => rw [e1, e2] at p; exact absurd p hn
      | some y =>
        rw [e1, e2] at p
        simp only [rsO_some, Rs.bind_ok] at p
        split at p
        · split at p
          · rename_i z; exact .inl ⟨x, _, data_ok s h1 e1, data_ok s h2 e2, z.1, z.2, p⟩
          · exact absurd p hn
        · exact absurd p hn
theorem s_in : Op2S K ca (rInA K) gIn := by
  intro W σ F0 H0 F H v1 v2 a b Q gr h1 h2 p
  rcases gInB_sound (P := PostE K ca W σ F0 H0 Q) gr.cfg.sub h1 h2 (fun h => h) p with ⟨d, ds, q1, q2, q3, q4, q5⟩ | ⟨d, ds, q1, q2, q3, q4, q5⟩ | ⟨i, j, e1, e2, q5⟩
  · exact .inl ⟨d, ds, q1, q2, q3, q4, q5 F H _ gr (.bl _)⟩
  · exact .inr (.inl ⟨d, ds, q1, q2, q3, q4, q5 F H _ gr (.bl _)⟩)
  · exact .inr (.inr ⟨i, j, e1, e2, q5 F H _ gr (.bl _)⟩)
theorem s_notIn : Op2S K ca (rNotInA K) gNotIn := by
  intro W σ F0 H0 F H v1 v2 a b Q gr h1 h2 p
  rcases gInB_sound (P := PostE K ca W σ F0 H0 Q) gr.cfg.sub h1 h2 (fun h => h) p with ⟨d, ds, q1, q2, q3, q4, q5⟩ | ⟨d, ds, q1, q2, q3, q4, q5⟩ | ⟨i, j, e1, e2, q5⟩
  · exact .inl ⟨d, ds, q1, q2, q3, q4, q5 F H _ gr (.bl _)⟩
  · exact .inr (.inl ⟨d, ds, q1, q2, q3, q4, q5 F H _ gr (.bl _)⟩)
  · exact .inr (.inr ⟨i, j, e1, e2, q5 F H _ gr (.bl _)⟩)
/-- is None -/
def isNone : RV → Bool
  | .d .none => true
  | _ => false
def gIs (a b : RV) : Rs RV := match b with
  | .d .none => okB (isNone a)
  | _ => .no
def gIsNot (a b : RV) : Rs RV := match b with
  | .d .none => okB (!isNone a)
  | _ => .no
theorem isNone_ok (h : RVok K H0 F H v r) : decide (v = .non) = isNone r := by
  cases r with
  | d x => cases x <;> cases h <;> rfl
  | ol xs => obtain ⟨p, vs, rfl, _⟩ := h; rfl
  | bl xs => obtain ⟨p, vs, rfl, _⟩ := h; rfl
  | od xs => obtain ⟨p, vs, rfl, _⟩ := h; rfl
  | bd xs => obtain ⟨p, vs, rfl, _⟩ := h; rfl
  | ot xs => obtain ⟨p, vs, rfl, _⟩ := h; rfl
  | bt xs => obtain ⟨p, vs, rfl, _⟩ := h; rfl
  | sc ns => obtain ⟨a, rfl, _⟩ := h; rfl
  | xo a dd c fs => obtain ⟨rfl, _⟩ := h; rfl
  | t3 x ys kvs => obtain ⟨p, w, l, d, vs, us, rfl, _⟩ := h; rfl
  | fd kvs => obtain ⟨p, us, rfl, _⟩ := h; rfl
  | ob me x fs => obtain ⟨p, rfl, _⟩ := h; rfl
  | bo x fs => obtain ⟨p, rfl, _⟩ := h; rfl
theorem s_is : Op2S K ca (fun x y H Q => y = .non ∧ Q (.bl (decide (x = .non))) H) gIs := by
  intro W σ F0 H0 F H v1 v2 a b Q gr h1 h2 p
  unfold gIs at p
  split at p
  · cases h2; exact ⟨rfl, by rw [isNone_ok h1]; exact p F H _ gr (.bl _)⟩
  · exact p.elim
theorem s_isNot : Op2S K ca (fun x y H Q => y = .non ∧ Q (.bl (!decide (x = .non))) H) gIsNot := by
  intro W σ F0 H0 F H v1 v2 a b Q gr h1 h2 p
  unfold gIsNot at p
  split at p
  · cases h2; exact ⟨rfl, by rw [isNone_ok h1]; exact p F H _ gr (.bl _)⟩
  · exact p.elim
/-! ### subscripts -/
def RV.sq (r : RV) : Option (List PyData) := match r with
  | .d (.tuple xs) => some xs
  | r => r.qv
def gIx (a b : RV) : Rs RV := match b with
  | .d (.int i) => (match a with
    | .d (.str z) => if z.length ≤ 1000000 then (rsO (atI z.cps.toList i)).bind fun c => .ok (.d (.str ⟨#[c]⟩)) else .no
    | a => (rsO a.sq).bind fun xs => (rsO (atI xs i)).bind fun d => .ok (.d d))
  | _ => .no
theorem s_ix : Op2S K ca (rIx K) gIx := by
  intro W σ F0 H0 F H v1 v2 a b Q gr h1 h2 p
  unfold gIx at p
  split at p
  · rename_i i
    cases h2
    split at p
    · rename_i z
      cases h1
      split at p
      · rename_i hz
        cases e : atI z.cps.toList i with
        | none => rw [e] at p; exact p.elim
        | some c => rw [e] at p; exact .inr (.inr ⟨z, i, c, rfl, rfl, Nat.le_of_lt (million hz), e, p F H _ gr (.str _)⟩)
      · exact p.elim
    · cases e : a.sq with
      | none => rw [e] at p; exact p.elim
      | some xs =>
        rw [e] at p
        simp only [rsO_some, Rs.bind_ok] at p
        cases e2 : atI xs i with
        | none => rw [e2] at p; exact p.elim
        | some d =>
          rw [e2] at p
          by_cases ht : a.tv = some xs
          · obtain ⟨p1, vs, rfl, a1, _, q1⟩ := tv_ok gr.cfg.sub h1 ht
            obtain ⟨w, e3, q3⟩ := atI_dq q1 e2
            exact .inr (.inl ⟨p1, vs, i, w, rfl, rfl, a1, e3, p F H _ gr q3⟩)
          · have eq : a.qv = some xs := by
              unfold RV.sq at e
              split at e
              · exact absurd (by exact e) ht
              · exact e
            obtain ⟨p1, vs, rfl, a1, q1⟩ := qv_ok gr.cfg.sub h1 eq
            obtain ⟨w, e3, q3⟩ := atI_dq q1 e2
            exact .inl ⟨p1, vs, i, w, rfl, rfl, a1, e3, p F H _ gr q3⟩
  · exact p.elim
/-! ### slices -/
def cutL {α : Type} (xs : List α) (lo hi : Option Int) : List α := (xs.drop (HT.sIx xs.length 0 lo)).take (HT.sIx xs.length xs.length hi - HT.sIx xs.length 0 lo)
theorem cut_dq {vs : List V} (h : DqA K F vs xs) (lo hi : Option Int) : DqA K F (cutV vs lo hi) (cutL xs lo hi) := by
  unfold cutV cutL
  rw [h.length]
  exact (h.drop _).take _
def gSl (a : RV) (lo hi : Option Int) : Rs RV := match a with
  | .d (.str z) => if z.length ≤ 1000000 then .ok (.d (.str (cutS z lo hi))) else .no
  | .d (.tuple xs) => .ok (.d (.tuple (cutL xs lo hi)))
  | a => (rsO a.qv).bind fun xs => .ok (.ol (cutL xs lo hi))
/-- t[lo:hi], what comes known to have no dict -/
def rSlN (K : PySem.W.Frag) : V → Option Int → Option Int → Hp → VK → Prop := fun x lo hi H Q => ∃ a xs, x = .ref a ∧ SqT K H a xs ∧
  (HT.sIx xs.length 0 lo = 0 ∧ HT.sIx xs.length xs.length hi = xs.length → Q (.ref a) H) ∧ (¬ (HT.sIx xs.length 0 lo = 0 ∧ HT.sIx xs.length xs.length hi = xs.length) → ∀ (o : Obj) p, o.dict = none → H p = none → Q (.ref p) (upd H p (.frz o (.tup (cutV xs lo hi)))))
theorem sl_tupN {X : Cx} : SlR X (rSlN X.K) := by
  intro pins s σ H x v vl vu lo hi sl Q I rx hs pl pu h
  obtain ⟨a, xs, rfl, hx, k1, k2⟩ := h
  cases rx
  obtain ⟨its, r, ht, hz⟩ := I.tuple hx
  have hl : its.toArray.size = xs.length := by rw [List.size_toArray]; exact r.length.symm
  refine ⟨"tuple", _, PyProof.Rows.slot_tuple_getitem.lookup, ht.typeIs, ?_⟩
  by_cases hw : HT.sIx xs.length 0 lo = 0 ∧ HT.sIx xs.length xs.length hi = xs.length
  · exact getItem_tuple_whole ht hs pl pu (by rw [hl]; exact hw) ⟨.ref a, H, I, rfl, k1 hw⟩
  · refine HT.getItem_tuple_cut ht hs pl pu (by rw [hl]; exact hw) ?_ (by rw [hl]; exact hz)
    rw [hl]
    have nn : H s.heap.objs.size = none := I.hok.fresh (Nat.le_refl _)
    refine ⟨.ref s.heap.objs.size, _, I.laid (t' := s.toks) (o := .frz _ (.tup (cutV xs lo hi))) (fun _ _ q => Heap.get?_push_of_some _ q) (Nat.le_refl _) ⟨Heap.get?_push_size _ rfl, ?_⟩, rfl, k2 hw _ _ rfl nn⟩
    exact ⟨Nat.le_trans (cutV_length xs lo hi) hz, _, (r.drop (HT.sIx xs.length 0 lo)).take (HT.sIx xs.length xs.length hi - HT.sIx xs.length 0 lo), _, Heap.get?_push_size _ rfl, rfl, _, rfl⟩
def rSlAll (K : PySem.W.Frag) : V → Option Int → Option Int → Hp → VK → Prop := fun x lo hi H Q => rSlS x lo hi H Q ∨ (rSlN K x lo hi H Q ∨ rSlL K x lo hi H Q)
theorem sl_all {X : Cx} : SlR X (rSlAll X.K) := SlR.or sl_str (SlR.or sl_tupN sl_list)
theorem s_sl {W : WX} {σ : L2.St} {F0 H0' : Hp} {lo hi : Option Int} {Q : VK} (gr : Grow F0 H0' F H) (h : RVok K H0' F H v r) (p : PostE K ca W σ F0 H0' Q (gSl r lo hi)) : rSlAll K v lo hi H Q := by
  unfold gSl at p
  split at p
  · cases h
    split at p
    · rename_i hz
      exact .inl ⟨_, rfl, Nat.le_of_lt (million hz), p F H _ gr (.str _)⟩
    · exact p.elim
  · rename_i xs
    obtain ⟨p1, vs, rfl, a1, a2, q1⟩ := tv_ok gr.cfg.sub h rfl
    refine .inr (.inl ⟨p1, vs, rfl, a1, fun e => ?_, fun e o l no hl => ?_⟩)
    · have ew : cutL xs lo hi = xs := by
        unfold cutL
        rw [q1.length] at e
        rw [e.1, e.2]
        simp
      exact p F H _ gr (by rw [ew]; exact .tup a2 q1)
    · have g2 := Grow.newF gr.cfg (.frz o (.tup (cutV vs lo hi))) hl
      exact p _ _ _ (gr.trans g2) (.tup (.frz no upd_same) (DqA.mono g2.ff _ _ (cut_dq q1 lo hi)))
  · cases e : r.qv with
    | none => rw [e] at p; exact p.elim
    | some xs =>
      rw [e] at p
      obtain ⟨p1, vs, rfl, a1, q1⟩ := qv_ok gr.cfg.sub h e
      refine .inr (.inr ⟨p1, vs, rfl, a1, fun l hl => ?_⟩)
      have g2 := Grow.newO gr.cfg (.lst (cutV vs lo hi)) hl (fun _ z => by cases z)
      exact p _ _ _ (gr.trans g2) ⟨l, _, rfl, none_n gr.hh hl, same_none gr.cfg.sub hl, upd_same, cut_dq q1 lo hi⟩
end
end VL

namespace VL
open PySem PySem.Spec PyProof.Rows L2

/-! ## built-in functions -/
section
variable {K : PySem.W.Frag} {ca : CA}
theorem pr1 {P : V → RV → Prop} {vs : List V} {r : RV} (h : Paired P vs [r]) : ∃ v, vs = [v] ∧ P v r := by
  cases h with
  | cons h1 h2 => cases h2; exact ⟨_, rfl, h1⟩
theorem pr2 {P : V → RV → Prop} {vs : List V} {r r' : RV} (h : Paired P vs [r, r']) : ∃ v w, vs = [v, w] ∧ P v r ∧ P w r' := by
  cases h with
  | cons h1 h2 => cases h2 with
    | cons h3 h4 => cases h4; exact ⟨_, _, rfl, h1, h3⟩
/-- a sequence that is read -/
theorem sq_ok {H0 F H : Hp} {v : V} {r : RV} {xs : List PyData} (s : Same F H) (h : RVok K H0 F H v r) (e : r.sq = some xs) : ∃ p vs, v = .ref p ∧ (SqL K H p vs ∨ SqT K H p vs) ∧ DqA K F vs xs := by
  by_cases ht : r.tv = some xs
  · obtain ⟨p1, vs, e1, a1, _, q1⟩ := tv_ok s h ht
    exact ⟨p1, vs, e1, .inr a1, q1⟩
  · have eq : r.qv = some xs := by
      unfold RV.sq at e
      split at e
      · exact absurd (by exact e) ht
      · exact e
    obtain ⟨p1, vs, e1, a1, q1⟩ := qv_ok s h eq
    exact ⟨p1, vs, e1, .inl a1, q1⟩
def gLen : List RV → Rs RV
  | [.d (.str z)] => if z.length ≤ 1000000 then okI z.length else .no
  | [.bd kvs] => okI kvs.length
  | [.od kvs] => okI kvs.length
  | [r] => (rsO r.sq).bind fun xs => okI xs.length
  | _ => .no
def rOrC (r r' : List V → Hp → VK → Prop) : List V → Hp → VK → Prop := fun xs H Q => r xs H Q ∨ r' xs H Q
abbrev rLenS (K : PySem.W.Frag) : List V → Hp → VK → Prop := fun xs H Q => ∃ p ys, xs = [.ref p] ∧ (SqL K H p ys ∨ SqT K H p ys) ∧ Q (.int ys.length) H
abbrev rLenT : List V → Hp → VK → Prop := fun xs H Q => ∃ z, xs = [.str z] ∧ z.length ≤ sizeLine ∧ Q (.int z.length) H
abbrev rLenD : List V → Hp → VK → Prop := fun xs H Q => ∃ p kvs, xs = [.ref p] ∧ Rd H p (.dK kvs) ∧ Q (.int kvs.length) H
theorem call_lenD' {X : Cx} : CallR X (.builtin "len") rLenD := by
  intro pins s σ H xs us Q I r h
  obtain ⟨a, kvs, rfl, ha, q⟩ := h
  obtain ⟨u, rfl, ru⟩ := vals1 r
  cases ru
  exact d_len I ha fun t s' I' => ⟨.int kvs.length, H, I', ⟨t, rfl⟩, q⟩
theorem call_lenA {X : Cx} : CallR X (.builtin "len") (fun xs H Q => rLenS X.K xs H Q ∨ (rLenT xs H Q ∨ rLenD xs H Q)) := CallR.or call_len_seq (CallR.or call_len_str call_lenD')
theorem KD.length {κ : Type} {F : Hp} : ∀ {a : List (κ × V)} {b : List (κ × PyData)}, KD K F a b → a.length = b.length := fun h => Paired.length h
theorem c_len : CaS K ca (fun xs H Q => rLenS K xs H Q ∨ (rLenT xs H Q ∨ rLenD xs H Q)) gLen := by
  intro W σ F0 H0 F H vs as Q gr h p
  unfold gLen at p
  split at p
  · obtain ⟨v, rfl, hx⟩ := pr1 h
    cases hx
    split at p
    · rename_i hz; exact .inr (.inl ⟨_, rfl, Nat.le_of_lt (million hz), p F H _ gr (.int _)⟩)
    · exact p.elim
  · obtain ⟨v, rfl, q, ks, rfl, hp, kd⟩ := pr1 h
    exact .inr (.inr ⟨q, ks, rfl, hp, by rw [kd.length]; exact p F H _ gr (.int _)⟩)
  · obtain ⟨v, rfl, q, ks, rfl, _, _, hp, kd⟩ := pr1 h
    exact .inr (.inr ⟨q, ks, rfl, .inl hp, by rw [kd.length]; exact p F H _ gr (.int _)⟩)
  · rename_i r _ _ _
    obtain ⟨v, rfl, hx⟩ := pr1 h
    cases e : r.sq with
    | none => rw [e] at p; exact p.elim
    | some xs =>
      rw [e] at p
      obtain ⟨q, ws, rfl, hq, dq⟩ := sq_ok gr.cfg.sub hx e
      exact .inl ⟨q, ws, rfl, hq, by rw [dq.length]; exact p F H _ gr (.int _)⟩
  · exact p.elim
def gTupleC : List RV → Rs RV
  | [r] => (match r.tv with
    | some xs => .ok (.d (.tuple xs))
    | none => (rsO r.qv).bind fun xs => .ok (.d (.tuple xs)))
  | _ => .no
def rTupN (K : PySem.W.Frag) : List V → Hp → VK → Prop := fun xs H Q => ∃ p ys, xs = [.ref p] ∧ ((SqL K H p ys ∧ ∀ (o : Obj) l, o.dict = none → H l = none → Q (.ref l) (upd H l (.frz o (.tup ys)))) ∨ (SqT K H p ys ∧ Q (.ref p) H))
theorem call_tupN {X : Cx} : CallR X (.type "tuple") (rTupN X.K) := by
  intro pins s σ H xs us Q I r h
  obtain ⟨p, ys, rfl, h⟩ := h
  obtain ⟨u, rfl, rx⟩ := vals1 r
  cases rx
  rcases h with ⟨hq, q⟩ | ⟨hq, q⟩
  rotate_left
  · obtain ⟨_, _, pl, _⟩ := I.tuple hq
    exact call_tuple_same pl ⟨.ref p, H, I, rfl, q⟩
  obtain ⟨its, rv, pl, hz⟩ := I.list hq
  have hl := rv.length
  refine call_tuple_list pl.isList (fun h' kp => ?_) (by simp only [List.size_toArray] <;> omega)
  have I1 : Inv X pins σ H { s with heap := h' } := I.kept (t' := s.toks) kp
  have nn : H h'.objs.size = none := I1.hok.fresh (Nat.le_refl _)
  exact ⟨.ref h'.objs.size, _, I1.laid (t' := s.toks) (o := .frz _ (.tup ys)) (fun _ _ e => Heap.get?_push_of_some _ e) (Nat.le_refl _) ⟨Heap.get?_push_size _ rfl, hz, its, rv, _, Heap.get?_push_size _ rfl, rfl, _, rfl⟩, rfl, q _ _ rfl nn⟩
theorem c_tuple : CaS K ca (rTupN K) gTupleC := by
  intro W σ F0 H0 F H vs as Q gr h p
  unfold gTupleC at p
  split at p
  · rename_i r
    obtain ⟨v, rfl, hx⟩ := pr1 h
    cases e : r.tv with
    | some xs =>
      rw [e] at p
      obtain ⟨q, ws, rfl, a1, a2, dq⟩ := tv_ok gr.cfg.sub hx e
      exact ⟨q, ws, rfl, .inr ⟨a1, p F H _ gr (.tup a2 dq)⟩⟩
    | none =>
      rw [e] at p
      simp only at p
      cases e2 : r.qv with
      | none => rw [e2] at p; exact p.elim
      | some xs =>
        rw [e2] at p
        obtain ⟨q, ws, rfl, a1, dq⟩ := qv_ok gr.cfg.sub hx e2
        refine ⟨q, ws, rfl, .inl ⟨a1, fun o l no hl => ?_⟩⟩
        have g2 := Grow.newF gr.cfg (.frz o (.tup ws)) hl
        exact p _ _ _ (gr.trans g2) (.tup (.frz no upd_same) (DqA.mono g2.ff _ _ dq))
  · exact p.elim
def gListC : List RV → Rs RV
  | [r] => (rsO r.sq).bind fun xs => .ok (.ol xs)
  | _ => .no
theorem c_list : CaS K ca (fun xs H Q => ∃ p ys, xs = [.ref p] ∧ (SqL K H p ys ∨ SqT K H p ys) ∧ ∀ l, H l = none → Q (.ref l) (upd H l (.lst ys))) gListC := by
  intro W σ F0 H0 F H vs as Q gr h p
  unfold gListC at p
  split at p
  · rename_i r
    obtain ⟨v, rfl, hx⟩ := pr1 h
    cases e : r.sq with
    | none => rw [e] at p; exact p.elim
    | some xs =>
      rw [e] at p
      obtain ⟨q, ws, rfl, hq, dq⟩ := sq_ok gr.cfg.sub hx e
      refine ⟨q, ws, rfl, hq, fun l hl => ?_⟩
      have g2 := Grow.newO gr.cfg (.lst ws) hl (fun _ z => by cases z)
      exact p _ _ _ (gr.trans g2) ⟨l, _, rfl, none_n gr.hh hl, same_none gr.cfg.sub hl, upd_same, dq⟩
  · exact p.elim
def gMin2 : List RV → Rs RV
  | [.d (.int i), .d (.int j)] => okI (if j < i then j else i)
  | _ => .no
def gMax2 : List RV → Rs RV
  | [.d (.int i), .d (.int j)] => okI (if j > i then j else i)
  | _ => .no
theorem c_min2 : CaS K ca (fun xs H Q => ∃ i j, xs = [.int i, .int j] ∧ Q (.int (if j < i then j else i)) H) gMin2 := by
  intro W σ F0 H0 F H vs as Q gr h p
  unfold gMin2 at p
  split at p
  · obtain ⟨v, w, rfl, h1, h2⟩ := pr2 h
    cases h1; cases h2
    exact ⟨_, _, rfl, p F H _ gr (.int _)⟩
  · exact p.elim
theorem c_max2 : CaS K ca (fun xs H Q => ∃ i j, xs = [.int i, .int j] ∧ Q (.int (if j > i then j else i)) H) gMax2 := by
  intro W σ F0 H0 F H vs as Q gr h p
  unfold gMax2 at p
  split at p
  · obtain ⟨v, w, rfl, h1, h2⟩ := pr2 h
    cases h1; cases h2
    exact ⟨_, _, rfl, p F H _ gr (.int _)⟩
  · exact p.elim
/-! ### lists of ints, of truth values -/
def intsD : List PyData → Option (List Int)
  | [] => some []
  | .int i :: xs => (intsD xs).map (i :: ·)
  | _ => none
def boolsD : List PyData → Option (List Bool)
  | [] => some []
  | .bool i :: xs => (boolsD xs).map (i :: ·)
  | _ => none
theorem ints_ok {F : Hp} : ∀ {xs : List PyData} {vs : List V} {ns : List Int}, DqA K F vs xs → intsD xs = some ns → vs = ns.map V.int
  | [], _, ns, h, e => by cases h; cases e; rfl
  | x :: xs, _, ns, h, e => by
    cases h with
    | cons h1 h2 =>
      cases x with
      | int i =>
        cases e2 : intsD xs with
        | none => simp [intsD, e2] at e
        | some ms => simp [intsD, e2] at e; subst e; cases h1; rw [ints_ok h2 e2]; rfl
      | _ => cases e
theorem bools_ok {F : Hp} : ∀ {xs : List PyData} {vs : List V} {ns : List Bool}, DqA K F vs xs → boolsD xs = some ns → vs = ns.map V.bl
  | [], _, ns, h, e => by cases h; cases e; rfl
  | x :: xs, _, ns, h, e => by
    cases h with
    | cons h1 h2 =>
      cases x with
      | bool i =>
        cases e2 : boolsD xs with
        | none => simp [boolsD, e2] at e
        | some ms => simp [boolsD, e2] at e; subst e; cases h1; rw [bools_ok h2 e2]; rfl
      | _ => cases e
@[simp] theorem intsD_map (ns : List Int) : intsD (ns.map .int) = some ns := by
  induction ns with
  | nil => rfl
  | cons i ns ih => simp [intsD, ih]
@[simp] theorem boolsD_map (ns : List Bool) : boolsD (ns.map .bool) = some ns := by
  induction ns with
  | nil => rfl
  | cons i ns ih => simp [boolsD, ih]
def ins (x : Int) : List Int → List Int
  | [] => [x]
  | y :: ys => if x ≤ y then x :: y :: ys else y :: ins x ys
def isort : List Int → List Int
  | [] => []
  | x :: xs => ins x (isort xs)
theorem ins_perm (x : Int) : ∀ ys, (ins x ys).Perm (x :: ys)
  | [] => .refl _
  | y :: ys => by
    unfold ins
    split
    · exact .refl _
    · exact ((ins_perm x ys).cons y).trans (.swap x y ys)
theorem isort_perm : ∀ xs, (isort xs).Perm xs
  | [] => .refl _
  | x :: xs => (ins_perm x _).trans ((isort_perm xs).cons x)
theorem ins_sorted (x : Int) : ∀ {ys : List Int}, ys.Pairwise (· ≤ ·) → (ins x ys).Pairwise (· ≤ ·)
  | [], _ => by simp [ins]
  | y :: ys, h => by
    have h1 := List.pairwise_cons.mp h
    unfold ins
    split
    · rename_i c
      refine List.pairwise_cons.mpr ⟨fun z hz => ?_, h⟩
      rcases List.mem_cons.mp hz with rfl | hz
      · exact c
      · exact Int.le_trans c (h1.1 z hz)
    · rename_i c
      refine List.pairwise_cons.mpr ⟨fun z hz => ?_, ins_sorted x h1.2⟩
      rcases List.mem_cons.mp ((ins_perm x ys).mem_iff.mp hz) with rfl | hz
      · omega
      · exact h1.1 z hz
theorem isort_sorted : ∀ xs, (isort xs).Pairwise (· ≤ ·)
  | [] => .nil
  | x :: xs => ins_sorted x (isort_sorted xs)
theorem sorted_uniq : ∀ {xs ys : List Int}, xs.Perm ys → xs.Pairwise (· ≤ ·) → ys.Pairwise (· ≤ ·) → xs = ys
  | [], ys, p, _, _ => (List.Perm.nil_eq p)
  | x :: xs, [], p, _, _ => by have := p.length_eq; simp at this
  | x :: xs, y :: ys, p, h1, h2 => by
    have a1 := List.pairwise_cons.mp h1
    have a2 := List.pairwise_cons.mp h2
    have e : x = y := by
      have m1 : x ∈ y :: ys := p.mem_iff.mp List.mem_cons_self
      have m2 : y ∈ x :: xs := p.mem_iff.mpr List.mem_cons_self
      rcases List.mem_cons.mp m1 with z | z
      · exact z
      · rcases List.mem_cons.mp m2 with z' | z'
        · exact z'.symm
        · have := a1.1 y z'; have := a2.1 x z; omega
    subst e
    rw [sorted_uniq ((List.perm_cons x).mp p) a1.2 a2.2]
def gSorted : List RV → Rs RV
  | [r] => (rsO r.qv).bind fun xs => (rsO (intsD xs)).bind fun ns => .ok (.ol ((isort ns).map .int))
  | _ => .no
theorem c_sorted : CaS K ca (rSortedI K) gSorted := by
  intro W σ F0 H0 F H vs as Q gr h p
  unfold gSorted at p
  split at p
  · rename_i r
    obtain ⟨v, rfl, hx⟩ := pr1 h
    cases e : r.qv with
    | none => rw [e] at p; exact p.elim
    | some xs =>
      rw [e] at p
      simp only [rsO_some, Rs.bind_ok] at p
      cases e2 : intsD xs with
      | none => rw [e2] at p; exact p.elim
      | some ns =>
        rw [e2] at p
        obtain ⟨q, ws, rfl, hq, dq⟩ := qv_ok gr.cfg.sub hx e
        have := ints_ok dq e2
        subst this
        refine ⟨q, ns, rfl, hq, fun ns' l pm so hl => ?_⟩
        have e3 : ns' = isort ns := sorted_uniq (pm.trans (isort_perm ns).symm) so (isort_sorted ns)
        subst e3
        have g2 := Grow.newO gr.cfg (.lst ((isort ns).map V.int)) hl (fun _ z => by cases z)
        exact p _ _ _ (gr.trans g2) ⟨l, _, rfl, none_n gr.hh hl, same_none gr.cfg.sub hl, upd_same, DqA.of_ints _⟩
  · exact p.elim
def gAny : List RV → Rs RV
  | [r] => (rsO r.qv).bind fun xs => (rsO (boolsD xs)).bind fun bs => okB (bs.any id)
  | _ => .no
def gAll : List RV → Rs RV
  | [r] => (rsO r.qv).bind fun xs => (rsO (boolsD xs)).bind fun bs => okB (bs.all id)
  | _ => .no
def gSum : List RV → Rs RV
  | [r] => (rsO r.qv).bind fun xs => (rsO (intsD xs)).bind fun bs => okI bs.sum
  | _ => .no
theorem c_any : CaS K ca (rAny K) gAny := by
  intro W σ F0 H0 F H vs as Q gr h p
  unfold gAny at p
  split at p
  · rename_i r
    obtain ⟨v, rfl, hx⟩ := pr1 h
    cases e : r.qv with
    | none => rw [e] at p; exact p.elim
    | some xs =>
      rw [e] at p
      simp only [rsO_some, Rs.bind_ok] at p
      cases e2 : boolsD xs with
      | none => rw [e2] at p; exact p.elim
      | some ns =>
        rw [e2] at p
        obtain ⟨q, ws, rfl, hq, dq⟩ := qv_ok gr.cfg.sub hx e
        have := bools_ok dq e2
        subst this
        exact ⟨q, ns, rfl, hq, p F H _ gr (.bl _)⟩
  · exact p.elim
theorem c_all : CaS K ca (rAll K) gAll := by
  intro W σ F0 H0 F H vs as Q gr h p
  unfold gAll at p
  split at p
  · rename_i r
    obtain ⟨v, rfl, hx⟩ := pr1 h
    cases e : r.qv with
    | none => rw [e] at p; exact p.elim
    | some xs =>
      rw [e] at p
      simp only [rsO_some, Rs.bind_ok] at p
      cases e2 : boolsD xs with
      | none => rw [e2] at p; exact p.elim
      | some ns =>
        rw [e2] at p
        obtain ⟨q, ws, rfl, hq, dq⟩ := qv_ok gr.cfg.sub hx e
        have := bools_ok dq e2
        subst this
        exact ⟨q, ns, rfl, hq, p F H _ gr (.bl _)⟩
  · exact p.elim
theorem c_sum : CaS K ca (rSum K) gSum := by
  intro W σ F0 H0 F H vs as Q gr h p
  unfold gSum at p
  split at p
  · rename_i r
    obtain ⟨v, rfl, hx⟩ := pr1 h
    cases e : r.qv with
    | none => rw [e] at p; exact p.elim
    | some xs =>
      rw [e] at p
      simp only [rsO_some, Rs.bind_ok] at p
      cases e2 : intsD xs with
      | none => rw [e2] at p; exact p.elim
      | some ns =>
        rw [e2] at p
        obtain ⟨q, ws, rfl, hq, dq⟩ := qv_ok gr.cfg.sub hx e
        have := ints_ok dq e2
        subst this
        exact ⟨q, ns, rfl, hq, p F H _ gr (.int _)⟩
  · exact p.elim
/-- the greatest, the least of a list of ints -/
def maxL : List Int → Option Int
  | [] => none
  | x :: xs => some (xs.foldl (fun a b => if b > a then b else a) x)
def minL : List Int → Option Int
  | [] => none
  | x :: xs => some (xs.foldl (fun a b => if b < a then b else a) x)
theorem fold_max (xs : List Int) : ∀ x, (xs.foldl (fun a b => if b > a then b else a) x) ∈ x :: xs ∧ ∀ y ∈ x :: xs, y ≤ xs.foldl (fun a b => if b > a then b else a) x := by
  induction xs with
  | nil => intro x; simp
  | cons z xs ih =>
    intro x
    simp only [List.foldl_cons]
    by_cases c : z > x
    · rw [if_pos c]
      obtain ⟨i1, i2⟩ := ih z
      refine ⟨List.mem_cons_of_mem _ i1, fun y hy => ?_⟩
      rcases List.mem_cons.mp hy with rfl | hy
      · have := i2 z List.mem_cons_self; omega
      · exact i2 y hy
    · rw [if_neg c]
      obtain ⟨i1, i2⟩ := ih x
      refine ⟨?_, fun y hy => ?_⟩
      · rcases List.mem_cons.mp i1 with e | e
        · rw [e]; exact List.mem_cons_self
        · exact List.mem_cons_of_mem _ (List.mem_cons_of_mem _ e)
      · rcases List.mem_cons.mp hy with rfl | hy
        · exact i2 y List.mem_cons_self
        · rcases List.mem_cons.mp hy with rfl | hy
          · have := i2 x List.mem_cons_self; omega
          · exact i2 y (List.mem_cons_of_mem _ hy)
theorem fold_min (xs : List Int) : ∀ x, (xs.foldl (fun a b => if b < a then b else a) x) ∈ x :: xs ∧ ∀ y ∈ x :: xs, xs.foldl (fun a b => if b < a then b else a) x ≤ y := by
  induction xs with
  | nil => intro x; simp
  | cons z xs ih =>
    intro x
    simp only [List.foldl_cons]
    by_cases c : z < x
    · rw [if_pos c]
      obtain ⟨i1, i2⟩ := ih z
      refine ⟨List.mem_cons_of_mem _ i1, fun y hy => ?_⟩
      rcases List.mem_cons.mp hy with rfl | hy
      · have := i2 z List.mem_cons_self; omega
      · exact i2 y hy
    · rw [if_neg c]
      obtain ⟨i1, i2⟩ := ih x
      refine ⟨?_, fun y hy => ?_⟩
      · rcases List.mem_cons.mp i1 with e | e
        · rw [e]; exact List.mem_cons_self
        · exact List.mem_cons_of_mem _ (List.mem_cons_of_mem _ e)
      · rcases List.mem_cons.mp hy with rfl | hy
        · exact i2 y List.mem_cons_self
        · rcases List.mem_cons.mp hy with rfl | hy
          · have := i2 x List.mem_cons_self; omega
          · exact i2 y (List.mem_cons_of_mem _ hy)
def gMax1 : List RV → Rs RV
  | [r] => (rsO r.qv).bind fun xs => (rsO (intsD xs)).bind fun bs => (rsO (maxL bs)).bind okI
  | _ => .no
def gMin1 : List RV → Rs RV
  | [r] => (rsO r.qv).bind fun xs => (rsO (intsD xs)).bind fun bs => (rsO (minL bs)).bind okI
  | _ => .no
theorem c_max1 : CaS K ca (rMax K) gMax1 := by
  intro W σ F0 H0 F H vs as Q gr h p
  unfold gMax1 at p
  split at p
  · rename_i r
    obtain ⟨v, rfl, hx⟩ := pr1 h
    cases e : r.qv with
    | none => rw [e] at p; exact p.elim
    | some xs =>
      rw [e] at p
      simp only [rsO_some, Rs.bind_ok] at p
      cases e2 : intsD xs with
      | none => rw [e2] at p; exact p.elim
      | some ns =>
        rw [e2] at p
        obtain ⟨q, ws, rfl, hq, dq⟩ := qv_ok gr.cfg.sub hx e
        have := ints_ok dq e2
        subst this
        cases ns with
        | nil => exact p.elim
        | cons n ns =>
          refine ⟨q, n :: ns, rfl, hq, by simp, fun m hm hle => ?_⟩
          have f := fold_max ns n
          have e3 : m = ns.foldl (fun a b => if b > a then b else a) n := by have := f.2 m hm; have := hle _ f.1; omega
          rw [e3]
          exact p F H _ gr (.int _)
  · exact p.elim
theorem c_min1 : CaS K ca (rMin K) gMin1 := by
  intro W σ F0 H0 F H vs as Q gr h p
  unfold gMin1 at p
  split at p
  · rename_i r
    obtain ⟨v, rfl, hx⟩ := pr1 h
    cases e : r.qv with
    | none => rw [e] at p; exact p.elim
    | some xs =>
      rw [e] at p
      simp only [rsO_some, Rs.bind_ok] at p
      cases e2 : intsD xs with
      | none => rw [e2] at p; exact p.elim
      | some ns =>
        rw [e2] at p
        obtain ⟨q, ws, rfl, hq, dq⟩ := qv_ok gr.cfg.sub hx e
        have := ints_ok dq e2
        subst this
        cases ns with
        | nil => exact p.elim
        | cons n ns =>
          refine ⟨q, n :: ns, rfl, hq, by simp, fun m hm hle => ?_⟩
          have f := fold_min ns n
          have e3 : m = ns.foldl (fun a b => if b < a then b else a) n := by have := f.2 m hm; have := hle _ f.1; omega
          rw [e3]
          exact p F H _ gr (.int _)
  · exact p.elim
/-- str(n), int(text) -/
def gStr : List RV → Rs RV
  | [.d (.int i)] => if i.natAbs.log2 < 1920 then .ok (.d (.str (toString i : String))) else .no
  | _ => .no
theorem c_str : CaS K ca (fun xs H Q => ∃ i, xs = [.int i] ∧ i.natAbs.log2 < 1920 ∧ Q (.str (toString i : String)) H) gStr := by
  intro W σ F0 H0 F H vs as Q gr h p
  unfold gStr at p
  split at p
  · obtain ⟨v, rfl, hx⟩ := pr1 h
    cases hx
    split at p
    · rename_i c; exact ⟨_, rfl, c, p F H _ gr (.str _)⟩
    · exact p.elim
  · exact p.elim
def gInt : List RV → Rs RV
  | [.d (.str a)] => (rsO (PySem.intText? a)).bind fun n => if a.length ≤ 640 then okI n else .no
  | _ => .no
theorem c_int : CaS K ca (fun xs H Q => ∃ a n, xs = [.str a] ∧ PySem.intText? a = some n ∧ a.length ≤ 640 ∧ Q (.int n) H) gInt := by
  intro W σ F0 H0 F H vs as Q gr h p
  unfold gInt at p
  split at p
  · rename_i a
    obtain ⟨v, rfl, hx⟩ := pr1 h
    cases hx
    cases e : PySem.intText? a with
    | none => rw [e] at p; exact p.elim
    | some n =>
      rw [e] at p
      simp only [rsO_some, Rs.bind_ok] at p
      split at p
      · rename_i c; exact ⟨_, _, rfl, e, c, p F H _ gr (.int _)⟩
      · exact p.elim
  · exact p.elim
end
section
variable {ca : CA} {W : WX} {X : Cx} {a b e : Expr} {es : List Expr} {fa fb : VEnv → Rs RV} {pos : Pos}
/-! ### slices -/
structure VO (ca : CA) (W : WX) (X : Cx) (e : Option Expr) (f : VEnv → Rs (Option Int)) : Prop where
  ex : ∃ t, PO X e t ∧ ∀ B F env σ H Q, StOk X.K ca B F env σ H → (∀ o, f env = .ok o → ∀ F' H', Grow F H F' H' → Q o H') → (∀ c fs, f env = .ex c fs → PostX X.K ca W σ F H c fs) → f env ≠ .no → t σ H Q
def oN : VEnv → Rs (Option Int) := fun _ => .ok none
def oS (f : VEnv → Rs RV) : VEnv → Rs (Option Int) := fun env => (f env).bind fun r => match r with
  | .d (.int i) => .ok (some i)
  | _ => .no
theorem vo_none : VO ca W X none oN := ⟨_, po_none, fun B F env σ H Q st p _ _ => p none rfl F H (Grow.refl st.cfg)⟩
theorem vo_some (h : VE ca W X e fa) : VO ca W X (some e) (oS fa) := by
  obtain ⟨t, pe, se⟩ := h
  refine ⟨_, po_some pe, fun B F env σ H Q st p px pn => ?_⟩
  show t σ H fun x H1 => ∃ i, x = .int i ∧ Q (some i) H1
  refine se B F env σ H _ st ?_
  unfold oS at p px pn
  cases e1 : fa env with
  | no => rw [e1] at pn; exact (pn rfl).elim
  | ex c fs => exact px c fs (by rw [e1]; rfl)
  | ok r =>
    rw [e1] at p pn
    intro F' H' v g q
    simp only [Rs.bind_ok] at p pn
    split at pn
    · rename_i i; cases q; exact ⟨i, rfl, p _ rfl F' H' g⟩
    · exact (pn rfl).elim
def cSl (f : VEnv → Rs RV) (l h : VEnv → Rs (Option Int)) : VEnv → Rs RV := fun env => (f env).bind fun r => (l env).bind fun lo => (h env).bind fun hi => gSl r lo hi
theorem ve_sl {lo hi : Option Expr} {p2 : Pos} {l h : VEnv → Rs (Option Int)} (he : VE ca W X e fa) (hl : VO ca W X lo l) (hh : VO ca W X hi h) : VE ca W X (.Subscript e (.Slice lo hi none p2) pos) (cSl fa l h) := by
  obtain ⟨t, pe, se⟩ := he
  obtain ⟨tl, pl, sl⟩ := hl
  obtain ⟨th, ph, sh⟩ := hh
  refine ⟨_, pe_slice sl_all pe pl ph, fun B F env σ H Q st p => ?_⟩
  show t σ H fun x H1 => tl σ H1 fun l H2 => th σ H2 fun u H3 => rSlAll X.K x l u H3 Q
  refine seqE (PostE X.K ca W σ F H Q) se st p (fun _ _ h => h) (fun h => h) fun r F1 H1 v p1 g1 q1 => ?_
  refine sl B F1 env σ H1 _ (st.grow g1) (fun o eo F2 H2 g2 => ?_) (fun c fs ex => ?_) (fun en => ?_)
  · rw [eo] at p1
    simp only [Rs.bind_ok] at p1
    refine sh B F2 env σ H2 _ ((st.grow g1).grow g2) (fun u eu F3 H3 g3 => ?_) (fun c fs ex => ?_) (fun en => ?_)
    · rw [eu] at p1
      exact s_sl ((g1.trans g2).trans g3) ((q1.grow g2).grow g3) p1
    · rw [ex] at p1; exact PostX.mono (g1.trans g2) p1
    · rw [en] at p1; exact p1
  · rw [ex] at p1; exact PostX.mono g1 p1
  · rw [en] at p1; exact p1
def gRev (r : RV) : Rs RV := (rsO r.qv).bind fun xs => .ok (.ol xs.reverse)
theorem ve_rev {k : Nat} {p1 p2 p3 : Pos} (he : VE ca W X e fa) : VE ca W X (.Subscript e (.Slice none none (some (.UnaryOp .USub (.Constant (.int 1) k p1) p2)) p3) pos) (c1 gRev fa) := by
  obtain ⟨t, pe, se⟩ := he
  refine ⟨_, pe_revL pe, fun B F env σ H Q st p => ?_⟩
  show t σ H fun x H1 => ∃ a xs, x = .ref a ∧ SqL X.K H1 a xs ∧ ∀ p, H1 p = none → Q (.ref p) (upd H1 p (.lst xs.reverse))
  refine seqE (PostE X.K ca W σ F H Q) se st p (fun _ _ h => h) (fun h => h) fun r F1 H1 v p1 g1 q1 => ?_
  unfold gRev at p1
  cases e1 : r.qv with
  | none => rw [e1] at p1; exact p1.elim
  | some xs =>
    rw [e1] at p1
    obtain ⟨q, ws, rfl, hq, dq⟩ := qv_ok g1.cfg.sub q1 e1
    refine ⟨q, ws, rfl, hq, fun l hl => ?_⟩
    have g2 := Grow.newO g1.cfg (.lst ws.reverse) hl (fun _ z => by cases z)
    exact p1 _ _ _ (g1.trans g2) ⟨l, _, rfl, none_n g1.hh hl, same_none g1.cfg.sub hl, upd_same, dq.rev⟩
/-! ### isinstance(e, T), T a built-in class -/
def tyD : PyData → Option String
  | .none => some "NoneType"
  | .bool _ => some "bool"
  | .int _ => some "int"
  | .str _ => some "str"
  | .list _ => some "list"
  | .tuple _ => some "tuple"
  | .dict _ => none
def gIsi (T : String) (r : RV) : Rs RV := (rsO (r.data.bind tyD)).bind fun t => (rsO (kitB t T)).bind okB
theorem ty_ok {K : PySem.W.Frag} {H0 F H : Hp} {v : V} {r : RV} {t : String} (s : Same F H) (h : RVok K H0 F H v r) (e : r.data.bind tyD = some t) : TyX K H v (.type t) := by
  have lst : ∀ p vs, SqL K H p vs → TyX K H (.ref p) (.type "list") := fun p vs h => by
    rcases h with (h | ⟨o, h⟩) | ⟨o, its, n, hk, hc, _⟩
    · exact .base (.lst h)
    · exact .base (.frz h)
    · exact .kList hk hc
  have tup : ∀ p vs, SqT K H p vs → TyX K H (.ref p) (.type "tuple") := fun p vs h => by
    rcases h with (h | ⟨o, h⟩) | ⟨o, its, n, hk, hc, _⟩
    · exact .base (.tup h)
    · exact .fTuple h
    · exact .kTuple hk hc
  cases r with
  | d x =>
    cases x with
    | none => cases e; cases h; exact .base .non
    | bool b => cases e; cases h; exact .base (.bl _)
    | int b => cases e; cases h; exact .base (.int _)
    | str b => cases e; cases h; exact .base (.str _)
    | list xs => cases e; cases h with
      | lst h1 h2 => exact lst _ _ (SqL.of (s _ _ h1))
    | tuple xs => cases e; cases h with
      | tup h1 h2 => exact tup _ _ (same_seqT s h1.1)
    | dict kvs => cases e
  | ol xs => cases e; obtain ⟨p, vs, rfl, _, _, hp, _⟩ := h; exact lst _ _ (SqL.of hp)
  | bl xs => cases e; obtain ⟨p, vs, rfl, hp, _⟩ := h; exact lst _ _ (SqL.of hp)
  | sc ns => cases e; obtain ⟨p, rfl, hp⟩ := h; exact lst _ _ (s.seq hp)
  | _ => cases e
theorem ve_isi {T : Str} {T' : String} {p p2 : Pos} (hg : Gl X "isinstance") (hm : X.mg "isinstance" = none) (hg2 : Gl X T) (hm2 : X.mg T = none) (hv : bootBuiltins T = some (.type T')) (he : VE ca W X e fa) (hn2 : T ≠ "__name__" := by decide) (hd2 : (T == ("__debug__" : Str)) = false := by decide)
    (hs : starEach [e, .Name T p2] X.env = (false, eval e X.env) :: starEach [.Name T p2] X.env := by rfl) (hs2 : starEach [.Name T p2] X.env = (false, eval (.Name T p2) X.env) :: starEach [] X.env := by rfl) (hpl : (backTo pos (starEach [.Name T p2] X.env)).any (·.1) = false := by rfl) :
    VE ca W X (.Call (.Name "isinstance" p) [e, .Name T p2] [] pos) (c1 (gIsi T') fa) := by
  obtain ⟨t, pe, se⟩ := he
  refine ⟨_, pe_callB call_isi hg hm (by decide +kernel) (pa_cons pe (pa_cons (pe_bltn (v := .ty T') hg2 hm2 hv rfl hn2 hd2) pa_nil hs2) hs) (by decide) (by decide) hs hpl, fun B F env σ H Q st q => ?_⟩
  show t σ H fun x H1 => rIsi X.K [x, .ty T'] H1 Q
  refine seqE (PostE X.K ca W σ F H Q) se st q (fun _ _ h => h) (fun h => h) fun r F1 H1 v p1 g1 q1 => ?_
  unfold gIsi at p1
  cases e1 : r.data.bind tyD with
  | none => rw [e1] at p1; exact p1.elim
  | some ty =>
    rw [e1] at p1
    simp only [rsO_some, Rs.bind_ok] at p1
    cases e2 : kitB ty T' with
    | none => rw [e2] at p1; exact p1.elim
    | some k => rw [e2] at p1; exact ⟨v, .ty T', .type ty, .type T', k, rfl, .ty T', ty_ok g1.cfg.sub q1 e1, kit_ty e2, p1 F1 H1 _ g1 (.bl _)⟩
/-! ### range with a step of -1 -/
def gR3 : List RV → Rs (List PyData)
  | [.d (.int i), .d (.int j), .d (.int c)] => if c = -1 ∧ i.natAbs ≤ 1000000 ∧ j.natAbs ≤ 1000000 then .ok ((List.range (i - j).toNat).map fun k : Nat => .int (i - (k : Int))) else .no
  | _ => .no
theorem jw_rngc {G : Hp} (lo : Int) (n : Nat) : JWalk (Itc lo (-1) n) G ((List.range n).map fun i : Nat => V.int (lo - (i : Int))) where
  go := fun i H s hi => by
    have hi' : i < n := by simpa using hi
    exact hi'
  yld := fun i H x H' s y hi => by
    have hi' : i < n := by simpa using hi
    refine ⟨y.1, ?_⟩
    rw [y.2, List.getElem?_map, List.getElem?_range hi']
    show some (V.int (lo - (i : Int))) = some (V.int (lo + (i : Int) * -1))
    congr 2
    omega
  stop := fun H s => by show n ≤ _; simp
theorem vi_range3 {c tg : Expr} {p pos : Pos} {f : VEnv → Rs (List RV)} (hg : Gl X "range") (hm : X.mg "range" = none) (ha : VA ca W X [a, b, c] f)
    (hs : starEach [a, b, c] X.env = (false, eval a X.env) :: starEach [b, c] X.env := by rfl) (hpl : (backTo pos (starEach [b, c] X.env)).any (·.1) = false := by rfl) : VI ca W X tg (.Call (.Name "range" p) [a, b, c] [] pos) (iR gR3 f) := by
  obtain ⟨t, pa, sa⟩ := ha
  refine ⟨_, pi_range3 hg hm pa hs hpl, fun B F env σ H R st q => ?_⟩
  show t σ H fun vs H1 => ∃ (i j c : Int) (n : Nat), vs = [.int i, .int j, .int c] ∧ RgC i j c n ∧ R (Itc i c n) H1
  refine seqA (PostI X.K ca W σ F H R) sa st q (fun _ _ h => h) (fun h => h) fun rs F1 H1 vs p1 g1 q1 => ?_
  unfold gR3 at p1
  split at p1
  · rename_i i j c
    split at p1
    · rename_i hj
      cases q1 with
      | cons h1 h2 =>
        cases h2 with
        | cons h3 h4 =>
          cases h4 with
          | cons h5 h6 =>
            cases h6
            cases h1; cases h3; cases h5
            obtain ⟨rfl, k1, k2⟩ := hj
            refine ⟨i, j, -1, _, rfl, RgC.neg (by omega) (by omega) (by omega) (by omega), p1 _ F1 H1 _ g1 ?_ (jw_rngc i _)⟩
            have := DqA.of_ints (K := X.K) (F := F1) ((List.range (i - j).toNat).map fun k : Nat => i - (k : Int))
            rw [List.map_map, List.map_map] at this
            exact this
    · exact p1.elim
  · exact p1.elim
end
end VL

namespace VL
open PySem PySem.Spec PyProof.Rows L2

def RV.isOb : RV → Bool
  | .ob _ _ _ => true
  | _ => false
/-! ## writes to a list of one's own -/
section
variable {K : PySem.W.Frag} {ca : CA} {W : WX} {B : Base} {F H : Hp} {env : VEnv} {σ : L2.St}
theorem own_xd {K : PySem.W.Frag} {H0 F H : Hp} {p : Addr} {r : RV} {xs : List (Str × V)} (o : r.own = true) (h : RVok K H0 F H (.ref p) r) (hx : H p = some (.xd xs)) : False := by
  cases r with
  | ol ys => obtain ⟨a, ws, z, _, _, h2, _⟩ := h; cases z; rw [hx] at h2; cases h2
  | od ys => obtain ⟨a, ws, z, _, _, h2, _⟩ := h; cases z; rw [hx] at h2; cases h2
  | ot ys =>
    obtain ⟨a, ws, z, _, _, h2, _⟩ := h; cases z; rw [hx] at h2
    have h3 := Option.some.inj h2
    have h4 : HO.xd xs = HO.ext _ := h3
    cases h4
  | ob me x fs => obtain ⟨a, z, C, dx, vs, _, h2, _⟩ := h; cases z; rw [hx] at h2; cases h2
  | _ => cases o
theorem StOk.ownAt (st : StOk K ca B F env σ H) {i : Nat} {xs : List PyData} (e : env[i]? = some (some (.ol xs))) : ∃ p vs, σ[i]? = some (some (.ref p)) ∧ B.H p = none ∧ F p = none ∧ H p = some (.lst vs) ∧ DqA K F vs xs := by
  obtain ⟨v, e1, p, vs, rfl, q⟩ := st.sl i _ e
  exact ⟨p, vs, e1, q⟩
/-- what stands aside of a change at p stands still -/
theorem ObOk.aside {K : PySem.W.Frag} {H0 F H : Hp} {p a : Addr} {x : Str} {fs : List (Str × FV)} {o' : HO} (h : ObOk K H0 F H a x fs) (ne : a ≠ p) (nq : p ∉ fla H a fs) : ObOk K H0 F (upd H p o') a x fs := by
  have h' := h
  obtain ⟨C, dx, vs, _, _, n0, f0, _⟩ := h'
  exact h.to (Same.refl _) n0 f0 (upd_ne ne) fun q hq ws n f e => ⟨n, f, by rw [upd_ne (show q ≠ p from fun z => nq (by rw [← z]; exact hq))]; exact e⟩
theorem BoOk.aside {K : PySem.W.Frag} {F H : Hp} {p a : Addr} {x : Str} {fs : List (Str × FV)} {o' : HO} (h : BoOk K F H a x fs) (ne : a ≠ p) (nq : p ∉ fla H a fs) : BoOk K F (upd H p o') a x fs :=
  h.to (Same.refl _) (upd_ne ne) fun q hq ws e => by rw [upd_ne (show q ≠ p from fun z => nq (by rw [← z]; exact hq))]; exact e
theorem TabOk.aside {T : List Addr} {F H : Hp} {p : Addr} {o o' : HO} (h : TabOk T F H) (hp : H p = some o) (no : ∀ ps, o ≠ .tbl ps) : TabOk T F (upd H p o') :=
  h.to fun P ps f e => ⟨f, upd_ne fun z => by rw [z, hp] at e; exact no ps (Option.some.inj e)⟩
theorem own_tbl {K : PySem.W.Frag} {H0 F H : Hp} {p : Addr} {r : RV} {ps : Array Value} (o : r.own = true) (h : RVok K H0 F H (.ref p) r) (hx : H p = some (.tbl ps)) : False := by
  cases r with
  | ol ys => obtain ⟨a, ws, z, _, _, h2, _⟩ := h; cases z; rw [hx] at h2; cases h2
  | od ys => obtain ⟨a, ws, z, _, _, h2, _⟩ := h; cases z; rw [hx] at h2; cases h2
  | ot ys =>
    obtain ⟨a, ws, z, _, _, h2, _⟩ := h; cases z; rw [hx] at h2
    have h3 := Option.some.inj h2
    have h4 : HO.tbl ps = HO.ext _ := h3
    cases h4
  | ob me x fs => obtain ⟨a, z, C, dx, vs, _, h2, _⟩ := h; cases z; rw [hx] at h2; cases h2
  | _ => cases o
theorem StOk.write (st : StOk K ca B F env σ H) {i : Nat} {r0 r1 : RV} {p : Addr} {o o' : HO} (e : env[i]? = some (some r0)) (ow : r0.own = true) (es : σ[i]? = some (some (.ref p))) (hp : H p = some o) (n0 : B.H p = none) (f0 : F p = none) (nt : ∀ xs, o' ≠ .tup xs)
    (ok : RVok K B.H F (upd H p o') (.ref p) r1) (ob : r1.isB = false) (nob0 : r0.isOb = false := by rfl) (nob1 : r1.isOb = false := by rfl) : StOk K ca B F (env.set i (some r1)) σ (upd H p o') := by
  have hi : i < env.length := (List.getElem?_eq_some_iff.mp e).1
  have back : ∀ {j : Nat} {r : RV}, (env.set i (some r1))[j]? = some (some r) → (r.isOb = true ∨ r.isB = true) → j ≠ i ∧ env[j]? = some (some r) := fun {j r} ej o => by
    by_cases h : i = j
    · subst h
      rw [List.getElem?_set_self hi] at ej
      cases ej
      rcases o with o | o
      · rw [nob1] at o; cases o
      · rw [ob] at o; cases o
    · rw [List.getElem?_set_ne h] at ej; exact ⟨Ne.symm h, ej⟩
  have owns : ∀ {j : Nat} {r : RV}, (env.set i (some r1))[j]? = some (some r) → r.own = true → ∃ r', env[j]? = some (some r') ∧ r'.own = true := fun {j r} ej o => by
    by_cases h : i = j
    · subst h; exact ⟨r0, e, ow⟩
    · rw [List.getElem?_set_ne h] at ej; exact ⟨r, ej, o⟩
  obtain ⟨v0, ev0, q0⟩ := st.sl i r0 e
  have ev0' : v0 = .ref p := by rw [es] at ev0; cases ev0; rfl
  subst ev0'
  -- an instance's lists are elsewhere
  have obq : ∀ {j : Nat} {a : Addr} {me : Bool} {x : Str} {fs : List (Str × FV)}, env[j]? = some (some (.ob me x fs)) → σ[j]? = some (some (.ref a)) → p ∉ fla H a fs := fun {j a me x fs} ej sj hq => st.rg.o1 j i a p me x fs r0 ej sj hq e ow es
  have obp : ∀ {j : Nat} {a : Addr} {me : Bool} {x : Str} {fs : List (Str × FV)}, env[j]? = some (some (.ob me x fs)) → σ[j]? = some (some (.ref a)) → a ≠ p := fun {j a me x fs} ej sj z => by
    by_cases h : j = i
    · subst h; rw [e] at ej; cases ej; cases nob0
    · exact st.dis j i _ r0 a h ej e rfl ow sj (z ▸ es)
  have boq : ∀ {j : Nat} {a : Addr} {x : Str} {fs : List (Str × FV)}, env[j]? = some (some (.bo x fs)) → σ[j]? = some (some (.ref a)) → p ∉ fla H a fs := fun {j a x fs} ej sj hq => by
    obtain ⟨o, ho⟩ := st.rg.o3 j a p x fs ej sj hq
    rw [n0] at ho; cases ho
  have bop : ∀ {j : Nat} {a : Addr} {x : Str} {fs : List (Str × FV)}, env[j]? = some (some (.bo x fs)) → σ[j]? = some (some (.ref a)) → a ≠ p := fun {j a x fs} ej sj z => by
    obtain ⟨o, ho⟩ := st.bo j _ a ej rfl sj
    rw [z, n0] at ho; cases ho
  have fe : ∀ {a : Addr} {fs : List (Str × FV)}, a ≠ p → fla (upd H p o') a fs = fla H a fs := fun h => by unfold fla; rw [upd_ne h]
  refine ⟨st.gr.write n0 f0 hp nt, by simpa using st.len, fun j r ej => ?_, fun j r a ej o z => ?_, fun j k r r' a jk e1 e2 o1 o2 z1 z2 => ?_,
    ⟨st.rg.tb.aside hp (fun ps z => own_tbl ow q0 (z ▸ hp)), fun a b p1 q me x fs r ea za hq eb ob' => ?_, fun a b p1 p2 q me me' x x' fs fs' ab ea za eb zb hq hq' => ?_, fun a p1 q x fs ea za hq => ?_, fun a x fs ea => st.rg.me a x fs (back ea (.inl rfl)).2⟩⟩
  rotate_right 3
  · have ea' := (back ea (.inl rfl)).2
    rw [fe (obp ea' za)] at hq
    obtain ⟨r', eb', ob2⟩ := owns eb ob'
    exact st.rg.o1 a b p1 q me x fs r' ea' za hq eb' ob2
  · have ea' := (back ea (.inl rfl)).2
    have eb' := (back eb (.inl rfl)).2
    rw [fe (obp ea' za)] at hq
    rw [fe (obp eb' zb)] at hq'
    exact st.rg.o2 a b p1 p2 q me me' x x' fs fs' ab ea' za eb' zb hq hq'
  · have ea' := (back ea (.inr rfl)).2
    rw [fe (bop ea' za)] at hq
    exact st.rg.o3 a p1 q x fs ea' za hq
  · by_cases h : i = j
    · subst h
      rw [List.getElem?_set_self hi] at ej
      cases ej
      exact ⟨_, es, ok⟩
    · rw [List.getElem?_set_ne h] at ej
      obtain ⟨w, ew, q⟩ := st.sl j r ej
      refine ⟨w, ew, ?_⟩
      have ne : ∀ a, r.own = true → w = .ref a → a ≠ p := fun a o z y => by
        subst y; subst z
        exact st.dis i j r0 r a h e ej ow o es ew
      have nb : ∀ a, r.isB = true → w = .ref a → a ≠ p := fun a o z y => by
        subst y; subst z
        obtain ⟨ob, hb⟩ := st.bo j r a ej o ew
        rw [n0] at hb; cases hb
      cases r with
      | d x => exact q
      | ol ys => obtain ⟨a, ws, z, n, f2, h2, q4⟩ := q; exact ⟨a, ws, z, n, f2, by rw [upd_ne (ne a rfl z)]; exact h2, q4⟩
      | od ys => obtain ⟨a, ws, z, n, f2, h2, q4⟩ := q; exact ⟨a, ws, z, n, f2, by rw [upd_ne (ne a rfl z)]; exact h2, q4⟩
      | ot ys => obtain ⟨a, ws, z, n, f2, h2, q4⟩ := q; exact ⟨a, ws, z, n, f2, by rw [upd_ne (ne a rfl z)]; exact h2, q4⟩
      | sc ns => exact q
      | t3 x ys kvs => exact t3_mono (Same.refl _) q
      | fd kvs => exact fd_mono (Same.refl _) q
      | ob me x fs => obtain ⟨a, z, h4⟩ := q; subst z; exact ⟨a, rfl, h4.aside (obp ej ew) (obq ej ew)⟩
      | bo x fs => obtain ⟨a, z, h4⟩ := q; subst z; exact ⟨a, rfl, h4.aside (bop ej ew) (boq ej ew)⟩
      | bl ys => obtain ⟨a, ws, z, h2, q4⟩ := q; exact ⟨a, ws, z, by rw [upd_ne (nb a rfl z)]; exact h2, q4⟩
      | bd ys => obtain ⟨a, ws, z, h2, q4⟩ := q; exact ⟨a, ws, z, h2.imp (fun w => by rw [upd_ne (nb a rfl z)]; exact w) (fun ⟨o, w⟩ => ⟨o, by rw [upd_ne (nb a rfl z)]; exact w⟩), q4⟩
      | bt ys => obtain ⟨a, ws, z, h2, q4⟩ := q; exact ⟨a, ws, z, by rw [upd_ne (nb a rfl z)]; exact h2, q4⟩
      | xo a dd c fs =>
        obtain ⟨z, ws, h2, q4⟩ := q
        have hne : dd ≠ p := fun y => by
          subst y
          obtain ⟨v0, ev0, q0⟩ := st.sl i r0 e
          rw [es] at ev0
          cases ev0
          exact own_xd ow q0 h2
        exact ⟨z, ws, by rw [upd_ne hne]; exact h2, q4⟩
  · by_cases h : i = j
    · subst h
      rw [List.getElem?_set_self hi] at ej
      cases ej
      rw [ob] at o; cases o
    · rw [List.getElem?_set_ne h] at ej
      exact st.bo j r a ej o z
  · have own : ∀ (j : Nat) (r : RV), (env.set i (some r1))[j]? = some (some r) → r.own = true → ∃ r', env[j]? = some (some r') ∧ r'.own = true := fun j r ej o => by
      by_cases h : i = j
      · subst h; exact ⟨r0, e, ow⟩
      · rw [List.getElem?_set_ne h] at ej; exact ⟨r, ej, o⟩
    obtain ⟨s1, f1, g1⟩ := own j r e1 o1
    obtain ⟨s2, f2, g2⟩ := own k r' e2 o2
    exact st.dis j k s1 s2 a jk f1 f2 g1 g2 z1 z2
end
section
variable {ca : CA} {W : WX} {X : Cx} {a b e : Expr} {es : List Expr} {fa fb : VEnv → Rs RV} {pos : Pos}
/-- xs.append(e), xs a list of the def's own -/
def sApp (i : Nat) (fe : VEnv → Rs RV) : VEnv → Out := fun env => match env[i]? with
  | some (some (.ol xs)) => (fe env).out env fun r => match r.toD with
    | some d => if xs.length ≤ 1000000 then .nx (env.set i (some (.ol (xs ++ [d])))) else .no
    | none => .no
  | _ => .no
theorem vs_app (i : Nat) {x : Str} {p1 p2 p3 : Pos} (he : VE ca W X e fa) (hN : X.N[i]? = some x := by rfl) (hv : Vis X.env.scope x := by first | exact Or.inl rfl | exact Or.inr (Or.inl rfl) | exact Or.inr (Or.inr rfl)) (hd : (x == ("__debug__" : Str)) = false := by decide) (hcd : (x == ("__classdict__" : Str)) = false := by decide)
    (hbase : attributeBase (.Name x p1) "append" X.env (eval (.Name x p1) X.env) = eval (.Name x p1) X.env := by rfl)
    (hfew : ((backTo p3 (starEach (e :: []) X.env)).all (fun x => !x.1) && (backToKw p3 (keywordEach [] X.env)).all (fun x => x.1.isSome)
      && decide ((e :: []).length + ([] : List Keyword).length + (if ([] : List Keyword).isEmpty then 0 else 1) < 30)) = true := by rfl)
    (hline : (p2.endLine == p3.line) = true := by rfl) (hs : starEach (e :: []) X.env = (false, eval e X.env) :: starEach [] X.env := by rfl) (hplain : (backTo p3 (starEach [] X.env)).any (·.1) = false := by rfl)
    (hsw : swapsWith (.Call (.Attribute (.Name x p1) "append" p2) [e] [] p3) none pos.line X.env = pure false := by rfl) :
    VS ca W X (.Expr (.Call (.Attribute (.Name x p1) "append" p2) [e] [] p3) pos) (sApp i fa) := by
  obtain ⟨t, pe, se⟩ := he
  refine ⟨_, ps_expr (pe_bm PySem.F.plainAttrs_list PySem.F.slot_list_append PySem.F.type_list_append mt_append (pe_var hN hv hd hcd) (pa_cons pe pa_nil hs) hbase hfew hline hs hplain) hsw, fun B F env σ H D st p => ?_⟩
  show ∃ v, σ[i]? = some (some v) ∧ (tyV X.K "list" v H ∧ t σ H fun y H1 => rAppend v [y] H1 fun _ H2 => D.nx σ H2)
  unfold sApp at p
  split at p
  · rename_i xs e1
    obtain ⟨a, vs, s1, n0, f0, hp, q⟩ := st.ownAt e1
    refine ⟨.ref a, s1, .inl ⟨rfl, vs, SqL.of hp⟩, ?_⟩
    refine outE se st p fun r F1 H1 v p1 g q1 => ?_
    cases e2 : r.toD with
    | none => rw [e2] at p1; exact p1.elim
    | some d =>
      rw [e2] at p1
      simp only at p1
      split at p1
      · rename_i hz
        obtain ⟨F2, g2, s2, q2⟩ := frz g (Fz.of q1 e2)
        have st2 := st.grow g2
        have hp2 := g2.hh _ _ hp
        have f2 := g2.stillFree f0 hp
        have q3 : DqA X.K F2 (vs ++ [v]) (xs ++ [d]) := (DqA.mono g2.ff _ _ q).append (.cons q2 .nil)
        refine ⟨a, vs, v, rfl, rfl, hp2, by rw [q.length]; exact million hz, ?_⟩
        exact p1 F2 σ _ s2 (st2.write (r1 := .ol (xs ++ [d])) e1 rfl s1 hp2 n0 f2 (fun _ z => by cases z) ⟨a, _, rfl, n0, f2, upd_same, q3⟩ rfl)
      · exact p1.elim
  · exact p.elim
/-- xs.pop() as a statement -/
def sPop (i : Nat) : VEnv → Out := fun env => match env[i]? with
  | some (some (.ol xs)) => if xs = [] then .no else .nx (env.set i (some (.ol xs.dropLast)))
  | _ => .no
/-- xs[i] = e -/
def sStore (i : Nat) (fi fe : VEnv → Rs RV) : VEnv → Out := fun env => match env[i]? with
  | some (some (.ol xs)) => (fe env).out env fun r => (fi env).out env fun ix => match r.toD, ix with
    | some d, .d (.int k) => (match ixN xs.length k with
      | some j => .nx (env.set i (some (.ol (xs.set j d))))
      | none => .no)
    | _, _ => .no
  | _ => .no
theorem vs_store (i : Nat) {x : Str} {ie : Expr} {p1 p2 : Pos} {fi : VEnv → Rs RV} (he : VE ca W X e fa) (hi : VE ca W X ie fi) (hN : X.N[i]? = some x := by rfl) (hv : Vis X.env.scope x := by first | exact Or.inl rfl | exact Or.inr (Or.inl rfl) | exact Or.inr (Or.inr rfl)) (hd : (x == ("__debug__" : Str)) = false := by decide) (hcd : (x == ("__classdict__" : Str)) = false := by decide)
    (ha : ∀ v, assign (.Subscript (.Name x p1) ie p2) X.env v = (do
      let ov ← holding [v] (eval (.Name x p1) X.env)
      let iv ← holding [v, ov] (eval ie X.env)
      standAt p2
      holding [v, ov, iv] (setItem ov iv v)
      release [v, ov, iv] []) := by intro _; rfl)
    (hs : swapsWithSole [.Subscript (.Name x p1) ie p2] e pos.line X.env = pure false := by rfl) (hw : swappedStores [.Subscript (.Name x p1) ie p2] e X.env = pure none := by rfl)
    (h1 : (assignEach [.Subscript (.Name x p1) ie p2] X.env).map (·.2) = [assign (.Subscript (.Name x p1) ie p2) X.env] := by rfl) :
    VS ca W X (.Assign [.Subscript (.Name x p1) ie p2] e pos) (sStore i fi fa) := by
  obtain ⟨t, pe, se⟩ := he
  obtain ⟨ti, pi, si⟩ := hi
  refine ⟨_, ps_asg pe (pg_sub (pe_var hN hv hd hcd) pi set_list ha) hs hw h1, fun B F env σ H D st p => ?_⟩
  show t σ H fun v H1 => ∃ o, σ[i]? = some (some o) ∧ ti σ H1 fun iv H3 => rSetL o iv v H3 fun H4 => D.nx σ H4
  unfold sStore at p
  split at p
  · rename_i xs e1
    obtain ⟨a, vs, s1, n0, f0, hp, q⟩ := st.ownAt e1
    refine outE se st p fun r F1 H1 v p1 g q1 => ⟨_, s1, ?_⟩
    refine outE si (st.grow g) p1 fun ix F2 H2 w p2 g2 q2 => ?_
    cases e2 : r.toD with
    | none => rw [e2] at p2; exact p2.elim
    | some d =>
      rw [e2] at p2
      cases ix with
      | d y =>
        cases y with
        | int k =>
          simp only at p2
          cases e3 : ixN xs.length k with
          | none => rw [e3] at p2; exact p2.elim
          | some j =>
            rw [e3] at p2
            cases q2
            obtain ⟨F3, g3, s3, q3⟩ := frz (g.trans g2) (Fz.of (q1.grow g2) e2)
            have hp3 := g3.hh _ _ hp
            have f3 := g3.stillFree f0 hp
            refine ⟨a, vs, k, j, rfl, rfl, hp3, by rw [q.length]; exact e3, ?_⟩
            exact p2 F3 σ _ s3 ((st.grow g3).write (r1 := .ol (xs.set j d)) e1 rfl s1 hp3 n0 f3 (fun _ z => by cases z) ⟨a, _, rfl, n0, f3, upd_same, DqA.set q3 j (DqA.mono g3.ff _ _ q)⟩ rfl)
        | _ => exact p2.elim
      | _ => exact p2.elim
  · exact p.elim
/-- x += e, ints -/
def sAug (i : Nat) (g : RV → RV → Rs RV) (fe : VEnv → Rs RV) : VEnv → Out := fun env => match env[i]? with
  | some (some r0) => (fe env).out env fun r => (g r0.bor r).out env fun z => putS i z env
  | _ => .no
theorem vs_augI {i : Nat} {x : Str} {pos' : Pos} (hN : X.N.Nodup) (hi : X.N[i]? = some x) (hx : Loc X.env.scope x) (he : VE ca W X e fa) (hf : X.fn x = true ∨ X.env.scope.names.lookup x = some .local := by first | exact .inl rfl | exact .inr rfl | assumption) :
    VS ca W X (.AugAssign (.Name x pos') .Add e pos) (sAug i (RV.i2 fun i j => okI (i + j)) fa) := by
  obtain ⟨t, pe, se⟩ := he
  refine ⟨_, ps_aug hN hi hx pe ip_add hf, fun B F env σ H D st p => ?_⟩
  show ∃ x, σ[i]? = some (some x) ∧ t σ H fun y H1 => ∃ k l, x = .int k ∧ y = .int l ∧ D.nx (σ.set i (some (.int (k + l)))) H1
  unfold sAug at p
  split at p
  · rename_i r0 e1
    obtain ⟨v, e2, q0⟩ := st.sl i r0 e1
    refine ⟨v, e2, ?_⟩
    refine outE se st p fun r F1 H1 w p1 g q1 => ?_
    cases r0 with
    | d x0 => cases x0 with
      | int k => cases r with
        | d y => cases y with
          | int l =>
            cases q0; cases q1
            exact ⟨k, l, rfl, rfl, snd_put (r := .d (.int (k + l))) st g (.int _) p1⟩
          | _ => exact p1.elim
        | _ => exact p1.elim
      | _ => cases r <;> exact p1.elim
    | _ => exact p1.elim
  · exact p.elim
end

/-! ## the law's end -/
def spTrue (K : PySem.W.Frag) : Sp := fun vs H Q _ => ∃ (a : Addr) (ns : List Int), vs = [.ref a] ∧ SqL K H a (ns.map V.int) ∧ ns.length ≤ 63 ∧ ∀ H', Q (.bl true) H'
/-- what is no table -/
def noTb (H : Hp) : Hp := fun b => match H b with
  | some (.tbl _) => none
  | o => o
theorem noTb_sub (H : Hp) : Same (noTb H) H := fun b o h => by
  unfold noTb at h
  split at h
  · cases h
  · exact h
theorem noTb_get {H : Hp} {a : Addr} {o : HO} [i : NT o] (h : H a = some o) : noTb H a = some o := by
  unfold noTb
  rw [h]
  cases o with
  | tbl ps => exact absurd rfl (i.nt ps)
  | _ => rfl
theorem law_trueT {K : PySem.W.Frag} {ca : CA} {G : List RV → Rs RV} (h : ∀ ns : List Int, ns.length ≤ 63 → G [.sc ns] = .ok (.d (.bool true))) (vs : List V) (H : Hp) (Q : VK) (E : XK) (tb : ∀ P ∈ ca.T, ∃ ps : Array Value, H P = some (.tbl ps) ∧ TriplesOk ps.toList) (s : spTrue K vs H Q E) : spV K ca 1 G vs H Q E := by
  obtain ⟨a, ns, rfl, hS, hl, q⟩ := s
  have sq : SqL K (noTb H) a (ns.map V.int) := by
    rcases hS with (h | ⟨o, h⟩) | h
    · exact .inl (.inl (noTb_get h))
    · exact .inl (.inr ⟨o, noTb_get h⟩)
    · exact .inr h
  refine ⟨rfl, noTb H, [.sc ns], ⟨noTb_sub H, fun _ _ e => noTb_get e, fun a ps e => by
    unfold noTb at e
    split at e
    · cases e
    · rename_i h
      exact h ps e⟩, fun P hP => ?_, .cons ⟨a, rfl, sq⟩ .nil, ?_⟩
  · obtain ⟨ps, e, t⟩ := tb P hP
    exact ⟨by unfold noTb; rw [e], ps, e, t⟩
  rw [h ns hl]
  intro G' H' v g r
  cases r
  exact q H'
theorem law_true {K : PySem.W.Frag} {ca : CA} {G : List RV → Rs RV} (hT : ca.T = []) (h : ∀ ns : List Int, ns.length ≤ 63 → G [.sc ns] = .ok (.d (.bool true))) (vs : List V) (H : Hp) (Q : VK) (E : XK) (s : spTrue K vs H Q E) : spV K ca 1 G vs H Q E :=
  law_trueT h vs H Q E (fun P hP => by rw [hT] at hP; cases hP) s
end VL

namespace VL
open PySem PySem.Spec PyProof.Rows L2

/-! ## reckoning with semantic functions -/
@[simp] theorem fin_nx (e) : (Out.nx e).fin = .ok (.d .none) := rfl
@[simp] theorem fin_rt (r) : (Out.rt r).fin = .ok r := rfl
@[simp] theorem fin_ex (c fs e) : (Out.ex c fs e).fin = .ex c fs := rfl
@[simp] theorem fin_no : Out.no.fin = .no := rfl
/-- a turn's end in a loop -/
def Out.lp : Out → (VEnv → Out) → Out
  | .nx e, k => k e
  | .ct e, k => k e
  | .bk e, _ => .nx e
  | o, _ => o
@[simp] theorem lp_nx (e k) : (Out.nx e).lp k = k e := rfl
@[simp] theorem lp_ct (e k) : (Out.ct e).lp k = k e := rfl
@[simp] theorem lp_bk (e k) : (Out.bk e).lp k = .nx e := rfl
@[simp] theorem lp_rt (r k) : (Out.rt r).lp k = .rt r := rfl
@[simp] theorem lp_ex (c fs e k) : (Out.ex c fs e).lp k = .ex c fs e := rfl
@[simp] theorem lp_no (k) : Out.no.lp k = .no := rfl
@[simp] theorem loopF_nil (tg f env) : loopF tg f [] env = .nx env := rfl
theorem loopF_cons (tg f x xs env) : loopF tg f (x :: xs) env = match tgE tg x env with
  | none => .no
  | some e1 => (f e1).lp (loopF tg f xs) := by
  unfold loopF
  cases tgE tg x env with
  | none => rfl
  | some e1 => cases h : f e1 <;> simp [h, Out.lp]
theorem loopW_succ (c f n env) : loopW c f (n + 1) env = (c env).out env fun b => if b = true then (f env).lp (loopW c f n) else .nx env := by
  unfold loopW
  cases c env with
  | ok b => cases b with
    | false => rfl
    | true => simp only [Rs.out_ok, if_true]; cases h : f env <;> simp [h, Out.lp]
  | ex c fs => rfl
  | no => rfl
/-- a loop by a relation of what it carries; i: the turns so far -/
theorem loopF_go {α β : Type} {tg : Tg} {f : VEnv → Out} (R : Nat → α → VEnv → Prop) (emb : β → PyData) (step : α → β → α) : ∀ (xs : List β) (j : Nat) (s : α) (env : VEnv),
    (∀ i s env x, xs[i]? = some x → R (j + i) s env → ∃ e1, tgE tg (emb x) env = some e1 ∧ ∃ env', (f e1 = .nx env' ∨ f e1 = .ct env') ∧ R (j + i + 1) (step s x) env') → R j s env → ∃ env', loopF tg f (xs.map emb) env = .nx env' ∧ R (j + xs.length) (xs.foldl step s) env'
  | [], j, s, env, _, h => ⟨env, rfl, h⟩
  | x :: xs, j, s, env, hs, h => by
    obtain ⟨e1, t1, env', fe, r⟩ := hs 0 s env x rfl h
    obtain ⟨env2, l2, r2⟩ := loopF_go R emb step xs (j + 1) (step s x) env' (fun i s env y hy => by
      have := hs (i + 1) s env y (by simpa using hy)
      rw [show j + (i + 1) = j + 1 + i by omega] at this
      exact this) r
    refine ⟨env2, ?_, ?_⟩
    · rw [List.map_cons, loopF_cons, t1]
      rcases fe with fe | fe <;> simp only [fe, Out.lp] <;> exact l2
    · rw [List.length_cons, show j + (xs.length + 1) = j + 1 + xs.length by omega]; exact r2
theorem loopF_rel {α β : Type} {tg : Tg} {f : VEnv → Out} (R : Nat → α → VEnv → Prop) (emb : β → PyData) (step : α → β → α) (xs : List β) (s : α) (env : VEnv)
    (h : ∀ i s env x, xs[i]? = some x → R i s env → ∃ e1, tgE tg (emb x) env = some e1 ∧ ∃ env', (f e1 = .nx env' ∨ f e1 = .ct env') ∧ R (i + 1) (step s x) env') (h0 : R 0 s env) : ∃ env', loopF tg f (xs.map emb) env = .nx env' ∧ R xs.length (xs.foldl step s) env' := by
  have := loopF_go R emb step xs 0 s env (fun i s env x hx r => by rw [Nat.zero_add] at r ⊢; exact h i s env x hx r) h0
  rw [Nat.zero_add] at this
  exact this
/-- .. with a return on the way -/
def foldU {α β γ : Type} (step : α → β → Sum α γ) : List β → α → Sum α γ
  | [], s => .inl s
  | x :: xs, s => match step s x with
    | .inl s' => foldU step xs s'
    | .inr r => .inr r
theorem loopF_retgo {α β : Type} {tg : Tg} {f : VEnv → Out} (R : Nat → α → VEnv → Prop) (emb : β → PyData) (step : α → β → Sum α RV) : ∀ (xs : List β) (j : Nat) (s : α) (env : VEnv),
    (∀ i s env x, xs[i]? = some x → R (j + i) s env → ∃ e1, tgE tg (emb x) env = some e1 ∧ match step s x with
      | .inl s' => ∃ env', (f e1 = .nx env' ∨ f e1 = .ct env') ∧ R (j + i + 1) s' env'
      | .inr r => f e1 = .rt r) → R j s env → match foldU step xs s with
      | .inl s' => ∃ env', loopF tg f (xs.map emb) env = .nx env' ∧ R (j + xs.length) s' env'
      | .inr r => loopF tg f (xs.map emb) env = .rt r
  | [], j, s, env, _, h => ⟨env, rfl, h⟩
  | x :: xs, j, s, env, hs, h => by
    obtain ⟨e1, t1, q⟩ := hs 0 s env x rfl h
    have e0 : loopF tg f ((x :: xs).map emb) env = (f e1).lp (loopF tg f (xs.map emb)) := by rw [List.map_cons, loopF_cons, t1]
    rw [e0]
    unfold foldU
    cases hst : step s x with
    | inr r => rw [hst] at q; simp only at q ⊢; rw [q]; rfl
    | inl s' =>
      rw [hst] at q
      simp only at q ⊢
      obtain ⟨env', fe, r⟩ := q
      have e2 : (f e1).lp (loopF tg f (xs.map emb)) = loopF tg f (xs.map emb) env' := by rcases fe with fe | fe <;> rw [fe] <;> rfl
      rw [e2, List.length_cons, show j + (xs.length + 1) = j + 1 + xs.length by omega]
      exact loopF_retgo R emb step xs (j + 1) s' env' (fun i s env y hy => by
        have := hs (i + 1) s env y (by simpa using hy)
        rw [show j + (i + 1) = j + 1 + i by omega] at this
        exact this) r
theorem loopF_ret {α β : Type} {tg : Tg} {f : VEnv → Out} (R : Nat → α → VEnv → Prop) (emb : β → PyData) (step : α → β → Sum α RV) (xs : List β) (s : α) (env : VEnv)
    (h : ∀ i s env x, xs[i]? = some x → R i s env → ∃ e1, tgE tg (emb x) env = some e1 ∧ match step s x with
      | .inl s' => ∃ env', (f e1 = .nx env' ∨ f e1 = .ct env') ∧ R (i + 1) s' env'
      | .inr r => f e1 = .rt r) (h0 : R 0 s env) : match foldU step xs s with
      | .inl s' => ∃ env', loopF tg f (xs.map emb) env = .nx env' ∧ R xs.length s' env'
      | .inr r => loopF tg f (xs.map emb) env = .rt r := by
  have := loopF_retgo R emb step xs 0 s env (fun i s env x hx r => by rw [Nat.zero_add] at r ⊢; exact h i s env x hx r) h0
  rw [Nat.zero_add] at this
  exact this
@[simp] theorem lcF_nil (tg t fe env) : lcF tg t fe env [] = .ok [] := rfl
/-- a comprehension -/
theorem lcF_map {β : Type} {tg : Tg} {t : VEnv → Rs Bool} {fe : VEnv → Rs RV} {env : VEnv} (emb : β → PyData) (p : β → Bool) (g : β → PyData) : ∀ (xs : List β),
    (∀ x ∈ xs, ∃ e1, tgE tg (emb x) env = some e1 ∧ t e1 = .ok (p x) ∧ (p x = true → ∃ r, fe e1 = .ok r ∧ r.toD = some (g x))) → lcF tg t fe env (xs.map emb) = .ok ((xs.filter p).map g)
  | [], _ => rfl
  | x :: xs, h => by
    obtain ⟨e1, t1, c1, f1⟩ := h x List.mem_cons_self
    have ih := lcF_map (tg := tg) (t := t) (fe := fe) (env := env) emb p g xs fun y hy => h y (List.mem_cons_of_mem _ hy)
    rw [List.map_cons]
    unfold lcF
    rw [t1]
    simp only
    rw [c1]
    cases hp : p x with
    | false => simp only; rw [ih, List.filter_cons_of_neg (by simp [hp])]
    | true =>
      obtain ⟨r, f2, f3⟩ := f1 hp
      simp only
      rw [f2]
      simp only
      rw [f3]
      simp only
      rw [ih, List.filter_cons_of_pos hp]
      rfl
end VL

namespace VL
open PySem PySem.Spec PyProof.Rows L2
section
variable (f g : VEnv → Out) (fa fb : VEnv → Rs RV) (fA : VEnv → Rs (List RV)) (tb tc : VEnv → Rs Bool) (env : VEnv) (i j : Nat) (x y : PyData) (xs ys : List PyData)
@[simp] theorem e_nil : sNil env = .nx env := rfl
@[simp] theorem e_seq : sSeq f g env = (f env).then g := rfl
@[simp] theorem e_fz : sFz i f env = f (fzE i env) := rfl
@[simp] theorem e_bk : sBk env = .bk env := rfl
@[simp] theorem e_ct : sCt env = .ct env := rfl
@[simp] theorem e_ret : sRet fa env = (fa env).out env fun r => (r.nb).out env .rt := rfl
@[simp] theorem e_retN : sRetN env = .rt (.d .none) := rfl
@[simp] theorem e_drop : sDrop fa env = (fa env).out env fun _ => .nx env := rfl
@[simp] theorem e_set : sSet i fa env = (fa env).out env fun r => putS i r env := rfl
@[simp] theorem e_if : sIf tb f g env = (tb env).out env fun b => if b = true then f env else g env := rfl
@[simp] theorem e_for (tg src) : sFor tg src f env = (src env).out env fun xs => loopF tg f xs env := rfl
@[simp] theorem e_cC : cC x env = .ok (.d x) := rfl
@[simp] theorem e_c2 (h) : c2 h fa fb env = (fa env).bind fun x => (fb env).bind fun y => h x y := rfl
@[simp] theorem e_c1 (h) : c1 h fa env = (fa env).bind h := rfl
@[simp] theorem e_cA (h) : cA h fA env = (fA env).bind h := rfl
@[simp] theorem e_aN : aN env = .ok [] := rfl
@[simp] theorem e_aC : aC fa fA env = (fa env).bind fun x => (fA env).bind fun xs => .ok (x :: xs) := rfl
@[simp] theorem e_cB : cB fa env = (fa env).bind asB := rfl
@[simp] theorem e_asB (b : Bool) : asB (.d (.bool b)) = .ok b := rfl
@[simp] theorem e_bNot : bNot tb env = (tb env).bind fun b => .ok (!b) := rfl
@[simp] theorem e_bAnd : bAnd tb tc env = (tb env).bind fun b => if b = true then tc env else .ok false := rfl
@[simp] theorem e_bOr : bOr tb tc env = (tb env).bind fun b => if b = true then .ok true else tc env := rfl
@[simp] theorem e_vAnd : vAnd fa fb env = (cB fa env).bind fun b => if b = true then fb env else .ok (.d (.bool false)) := rfl
@[simp] theorem e_vOr : vOr fa fb env = (cB fa env).bind fun b => if b = true then .ok (.d (.bool true)) else fb env := rfl
@[simp] theorem e_vNot : vNot fa env = (cB fa env).bind fun b => .ok (.d (.bool (!b))) := rfl
@[simp] theorem e_vIf : vIf tb fa fb env = (tb env).bind fun b => if b = true then fa env else fb env := rfl
@[simp] theorem e_bYes : bYes env = .ok true := rfl
@[simp] theorem e_iL : iL fa env = (fa env).bind gL := rfl
@[simp] theorem e_iT : iT fa env = (fa env).bind gT := rfl
@[simp] theorem e_iLb : iLb fa env = (fa env).bind gLb := rfl
@[simp] theorem e_iR (h) : iR h fA env = (fA env).bind h := rfl
@[simp] theorem e_gL1 : gL (.d (.list xs)) = .ok xs := rfl
@[simp] theorem e_gL2 : gL (.ol xs) = .ok xs := rfl
@[simp] theorem e_gL3 (ns) : gL (.sc ns) = .ok (ns.map .int) := rfl
@[simp] theorem e_gT : gT (.d (.tuple xs)) = .ok xs := rfl
@[simp] theorem e_gLb1 : gLb (.d (.list xs)) = .ok xs := rfl
@[simp] theorem e_gLb2 : gLb (.ol xs) = .ok xs := rfl
@[simp] theorem e_gLb3 : gLb (.bl xs) = .ok xs := rfl
@[simp] theorem e_gLb4 (ns) : gLb (.sc ns) = .ok (ns.map .int) := rfl
@[simp] theorem e_nb1 : (RV.d x).nb = .ok (.d x) := rfl
@[simp] theorem e_nb2 : (RV.ol xs).nb = .ok (.ol xs) := rfl
@[simp] theorem e_bor1 : (RV.d x).bor = .d x := rfl
@[simp] theorem e_bor2 : (RV.ol xs).bor = .bl xs := rfl
@[simp] theorem e_bor3 : (RV.bl xs).bor = .bl xs := rfl
@[simp] theorem e_bor4 (ns) : (RV.sc ns).bor = .sc ns := rfl
@[simp] theorem e_arg1 : (RV.d x).arg = .d x := rfl
@[simp] theorem e_arg2 : (RV.ol xs).arg = .d (.list xs) := rfl
@[simp] theorem e_arg3 : (RV.bl xs).arg = .bl xs := rfl
@[simp] theorem e_arg4 (ns) : (RV.sc ns).arg = .sc ns := rfl
@[simp] theorem e_putd : putS i (.d x) env = if i < env.length then .nx (env.set i (some (.d x))) else .no := rfl
@[simp] theorem e_puto : putS i (.ol xs) env = if i < env.length then .nx (env.set i (some (.ol xs))) else .no := rfl
@[simp] theorem e_toD1 : (RV.d x).toD = some x := rfl
@[simp] theorem e_toD2 : (RV.ol xs).toD = some (.list xs) := rfl
@[simp] theorem e_allD0 : allD [] = some [] := rfl
@[simp] theorem e_allD1 (rs) : allD (.d x :: rs) = (allD rs).map (x :: ·) := by cases h : allD rs <;> simp [allD, h]
@[simp] theorem e_allD2 (rs) : allD (.ol xs :: rs) = (allD rs).map (.list xs :: ·) := by cases h : allD rs <;> simp [allD, h]
@[simp] theorem e_gTupl (rs) : gTupl rs = (rsO (allD rs)).bind fun ds => if ds.length ≤ 1000 then .ok (.d (.tuple ds)) else .no := rfl
@[simp] theorem e_gList (rs) : gList rs = (rsO (allD rs)).bind fun ds => if ds.length ≤ 1000 then .ok (.ol ds) else .no := rfl
@[simp] theorem e_tgnm : tgE (.nm i) x env = if i < env.length then some (env.set i (some (.d x))) else none := rfl
@[simp] theorem e_tgtp (is) : tgE (.tp is) (.tuple xs) env = tgEs is xs env := rfl
@[simp] theorem e_tg0 : tgEs [] [] env = some env := rfl
@[simp] theorem e_tg1 (is) : tgEs (i :: is) (x :: xs) env = if i < env.length then tgEs is xs (env.set i (some (.d x))) else none := rfl
@[simp] theorem e_sq1 : (RV.d (.tuple xs)).sq = some xs := rfl
@[simp] theorem e_sq2 : (RV.d (.list xs)).sq = some xs := rfl
@[simp] theorem e_sq3 : (RV.ol xs).sq = some xs := rfl
@[simp] theorem e_sq4 : (RV.bl xs).sq = some xs := rfl
@[simp] theorem e_sq5 (ns) : (RV.sc ns).sq = some (ns.map .int) := rfl
@[simp] theorem e_qv2 : (RV.d (.list xs)).qv = some xs := rfl
@[simp] theorem e_qv3 : (RV.ol xs).qv = some xs := rfl
@[simp] theorem e_qv4 : (RV.bl xs).qv = some xs := rfl
@[simp] theorem e_qv5 (ns) : (RV.sc ns).qv = some (ns.map .int) := rfl
@[simp] theorem e_data1 : (RV.d x).data = some x := rfl
@[simp] theorem e_data2 : (RV.ol xs).data = some (.list xs) := rfl
@[simp] theorem e_data3 : (RV.bl xs).data = some (.list xs) := rfl
@[simp] theorem e_okI (a : Int) : okI a = .ok (.d (.int a)) := rfl
@[simp] theorem e_okB (a : Bool) : okB a = .ok (.d (.bool a)) := rfl
@[simp] theorem e_i2 (h : Int → Int → Rs RV) (a b : Int) : RV.i2 h (.d (.int a)) (.d (.int b)) = h a b := rfl
@[simp] theorem e_sub (a b : Int) : gSub (.d (.int a)) (.d (.int b)) = .ok (.d (.int (a - b))) := rfl
@[simp] theorem e_mul (a b : Int) : gMul (.d (.int a)) (.d (.int b)) = if a.natAbs < 18446744073709551616 ∨ b.natAbs < 18446744073709551616 then .ok (.d (.int (a * b))) else .no := rfl
@[simp] theorem e_mod (a b : Int) : gMod (.d (.int a)) (.d (.int b)) = if 0 < b then .ok (.d (.int (a % b))) else .no := rfl
@[simp] theorem e_div (a b : Int) : gDiv (.d (.int a)) (.d (.int b)) = if 0 < b ∧ b.natAbs < 1073741824 then .ok (.d (.int (a / b))) else .no := rfl
@[simp] theorem e_pow (a b : Int) : gPow (.d (.int a)) (.d (.int b)) = if 0 ≤ b ∧ b ≤ 1000000 ∧ a.natAbs < 2 ^ 64 then .ok (.d (.int (a ^ b.toNat))) else .no := rfl
@[simp] theorem e_lt (a b : Int) : gLt (.d (.int a)) (.d (.int b)) = .ok (.d (.bool (decide (a < b)))) := rfl
@[simp] theorem e_le (a b : Int) : gLe (.d (.int a)) (.d (.int b)) = .ok (.d (.bool (decide (a ≤ b)))) := rfl
@[simp] theorem e_gt (a b : Int) : gGt (.d (.int a)) (.d (.int b)) = .ok (.d (.bool (decide (b < a)))) := rfl
@[simp] theorem e_ge (a b : Int) : gGe (.d (.int a)) (.d (.int b)) = .ok (.d (.bool (decide (b ≤ a)))) := rfl
@[simp] theorem e_neg (a : Int) : gNeg (.d (.int a)) = .ok (.d (.int (-a))) := rfl
@[simp] theorem e_addI (a b : Int) : gAdd (.d (.int a)) (.d (.int b)) = .ok (.d (.int (a + b))) := rfl
@[simp] theorem e_addS (a b : Str) : gAdd (.d (.str a)) (.d (.str b)) = if a.length + b.length ≤ 1000000 then .ok (.d (.str (a ++ b))) else .no := rfl
@[simp] theorem e_addT : gAdd (.d (.tuple xs)) (.d (.tuple ys)) = if xs.length + ys.length ≤ 1000000 then .ok (.d (.tuple (xs ++ ys))) else .no := rfl
@[simp] theorem e_addL1 : gAdd (.ol xs) (.ol ys) = if xs.length + ys.length ≤ 1000000 then .ok (.ol (xs ++ ys)) else .no := rfl
@[simp] theorem e_addL2 : gAdd (.ol xs) (.bl ys) = if xs.length + ys.length ≤ 1000000 then .ok (.ol (xs ++ ys)) else .no := rfl
@[simp] theorem e_addL3 : gAdd (.bl xs) (.ol ys) = if xs.length + ys.length ≤ 1000000 then .ok (.ol (xs ++ ys)) else .no := rfl
@[simp] theorem e_addL4 : gAdd (.bl xs) (.bl ys) = if xs.length + ys.length ≤ 1000000 then .ok (.ol (xs ++ ys)) else .no := rfl
@[simp] theorem e_addL5 : gAdd (.d (.list xs)) (.ol ys) = if xs.length + ys.length ≤ 1000000 then .ok (.ol (xs ++ ys)) else .no := rfl
@[simp] theorem e_addL6 : gAdd (.d (.list xs)) (.bl ys) = if xs.length + ys.length ≤ 1000000 then .ok (.ol (xs ++ ys)) else .no := rfl
@[simp] theorem e_addL7 : gAdd (.ol xs) (.d (.list ys)) = if xs.length + ys.length ≤ 1000000 then .ok (.ol (xs ++ ys)) else .no := rfl
@[simp] theorem e_addL8 : gAdd (.bl xs) (.d (.list ys)) = if xs.length + ys.length ≤ 1000000 then .ok (.ol (xs ++ ys)) else .no := rfl
@[simp] theorem e_addL9 : gAdd (.d (.list xs)) (.d (.list ys)) = if xs.length + ys.length ≤ 1000000 then .ok (.ol (xs ++ ys)) else .no := rfl
@[simp] theorem e_eq (a b : RV) : gEq a b = (rsO a.data).bind fun x => (rsO b.data).bind fun y => if SeqAt.shaped x = true ∧ SeqAt.shaped y = true then okB (PyData.eqv x y) else .no := rfl
@[simp] theorem e_ne (a b : RV) : gNe a b = (rsO a.data).bind fun x => (rsO b.data).bind fun y => if SeqAt.shaped x = true ∧ SeqAt.shaped y = true then okB (!PyData.eqv x y) else .no := rfl
@[simp] theorem e_in (a b : RV) : gIn a b = (gInB a b).bind okB := rfl
@[simp] theorem e_notIn (a b : RV) : gNotIn a b = (gInB a b).bind fun k => okB (!k) := rfl
@[simp] theorem e_inT (a : Int) : gInB (.d (.int a)) (.d (.tuple xs)) = if SeqAt.shaped (.int a) = true ∧ SeqAt.shaped (.tuple xs) = true then .ok (xs.any fun z => PyData.eqv z (.int a)) else .no := rfl
@[simp] theorem e_inT2 : gInB (.d (.tuple ys)) (.d (.tuple xs)) = if SeqAt.shaped (.tuple ys) = true ∧ SeqAt.shaped (.tuple xs) = true then .ok (xs.any fun z => PyData.eqv z (.tuple ys)) else .no := rfl
@[simp] theorem e_inL1 : gInB (.d x) (.d (.list xs)) = if SeqAt.shaped x = true ∧ SeqAt.shaped (.list xs) = true then .ok (xs.any fun z => PyData.eqv z x) else .no := by cases x <;> rfl
@[simp] theorem e_inL2 : gInB (.d x) (.ol xs) = if SeqAt.shaped x = true ∧ SeqAt.shaped (.list xs) = true then .ok (xs.any fun z => PyData.eqv z x) else .no := by cases x <;> rfl
@[simp] theorem e_inL3 : gInB (.d x) (.bl xs) = if SeqAt.shaped x = true ∧ SeqAt.shaped (.list xs) = true then .ok (xs.any fun z => PyData.eqv z x) else .no := by cases x <;> rfl
@[simp] theorem e_is (a : RV) : gIs a (.d .none) = .ok (.d (.bool (isNone a))) := rfl
@[simp] theorem e_isNot (a : RV) : gIsNot a (.d .none) = .ok (.d (.bool (!isNone a))) := rfl
@[simp] theorem e_isN1 : isNone (.d .none) = true := rfl
@[simp] theorem e_isN2 (a : Int) : isNone (.d (.int a)) = false := rfl
@[simp] theorem e_isN3 : isNone (.d (.tuple xs)) = false := rfl
@[simp] theorem e_isN4 : isNone (.d (.list xs)) = false := rfl
@[simp] theorem e_isN5 : isNone (.ol xs) = false := rfl
@[simp] theorem e_isN6 : isNone (.bl xs) = false := rfl
@[simp] theorem e_isN7 (s) : isNone (.d (.str s)) = false := rfl
@[simp] theorem e_ixT (a : Int) : gIx (.d (.tuple xs)) (.d (.int a)) = (rsO (atI xs a)).bind fun d => .ok (.d d) := rfl
@[simp] theorem e_ixL (a : Int) : gIx (.d (.list xs)) (.d (.int a)) = (rsO (atI xs a)).bind fun d => .ok (.d d) := rfl
@[simp] theorem e_ixO (a : Int) : gIx (.ol xs) (.d (.int a)) = (rsO (atI xs a)).bind fun d => .ok (.d d) := rfl
@[simp] theorem e_ixB (a : Int) : gIx (.bl xs) (.d (.int a)) = (rsO (atI xs a)).bind fun d => .ok (.d d) := rfl
@[simp] theorem e_ixSc (a : Int) (ns) : gIx (.sc ns) (.d (.int a)) = (rsO (atI (ns.map .int) a)).bind fun d => .ok (.d d) := rfl
@[simp] theorem e_ixS (a : Int) (z : Str) : gIx (.d (.str z)) (.d (.int a)) = if z.length ≤ 1000000 then (rsO (atI z.cps.toList a)).bind fun c => .ok (.d (.str ⟨#[c]⟩)) else .no := rfl
@[simp] theorem e_lenT : gLen [.d (.tuple xs)] = .ok (.d (.int xs.length)) := rfl
@[simp] theorem e_lenL : gLen [.d (.list xs)] = .ok (.d (.int xs.length)) := rfl
@[simp] theorem e_lenO : gLen [.ol xs] = .ok (.d (.int xs.length)) := rfl
@[simp] theorem e_lenB : gLen [.bl xs] = .ok (.d (.int xs.length)) := rfl
@[simp] theorem e_lenSc (ns : List Int) : gLen [.sc ns] = .ok (.d (.int ns.length)) := by show okI _ = _; simp
@[simp] theorem e_lenS (z : Str) : gLen [.d (.str z)] = if z.length ≤ 1000000 then .ok (.d (.int z.length)) else .no := rfl
@[simp] theorem e_tupT : gTupleC [.d (.tuple xs)] = .ok (.d (.tuple xs)) := rfl
@[simp] theorem e_tupL : gTupleC [.d (.list xs)] = .ok (.d (.tuple xs)) := rfl
@[simp] theorem e_tupO : gTupleC [.ol xs] = .ok (.d (.tuple xs)) := rfl
@[simp] theorem e_tupB : gTupleC [.bl xs] = .ok (.d (.tuple xs)) := rfl
@[simp] theorem e_lisT : gListC [.d (.tuple xs)] = .ok (.ol xs) := rfl
@[simp] theorem e_lisL : gListC [.d (.list xs)] = .ok (.ol xs) := rfl
@[simp] theorem e_lisO : gListC [.ol xs] = .ok (.ol xs) := rfl
@[simp] theorem e_lisB : gListC [.bl xs] = .ok (.ol xs) := rfl
@[simp] theorem e_min2 (a b : Int) : gMin2 [.d (.int a), .d (.int b)] = .ok (.d (.int (if b < a then b else a))) := rfl
@[simp] theorem e_max2 (a b : Int) : gMax2 [.d (.int a), .d (.int b)] = .ok (.d (.int (if b > a then b else a))) := rfl
@[simp] theorem e_any (r : RV) : gAny [r] = (rsO r.qv).bind fun xs => (rsO (boolsD xs)).bind fun bs => okB (bs.any id) := rfl
@[simp] theorem e_all (r : RV) : gAll [r] = (rsO r.qv).bind fun xs => (rsO (boolsD xs)).bind fun bs => okB (bs.all id) := rfl
@[simp] theorem e_sum (r : RV) : gSum [r] = (rsO r.qv).bind fun xs => (rsO (intsD xs)).bind fun bs => okI bs.sum := rfl
@[simp] theorem e_sorted (r : RV) : gSorted [r] = (rsO r.qv).bind fun xs => (rsO (intsD xs)).bind fun ns => .ok (.ol ((isort ns).map .int)) := rfl
@[simp] theorem e_rev (r : RV) : gRev r = (rsO r.qv).bind fun xs => .ok (.ol xs.reverse) := rfl
theorem e_R1 {a : Int} (h : a.natAbs ≤ 1000000) : gR1 [.d (.int a)] = .ok (rngL 0 a.toNat) := if_pos h
theorem e_R1n {n : Nat} (h : n ≤ 1000000) : gR1 [.d (.int n)] = .ok (rngL 0 n) := e_R1 (a := (n : Int)) h
theorem e_R2 {a b : Int} (h : a.natAbs ≤ 1000000) (h2 : b.natAbs ≤ 1000000) : gR2 [.d (.int a), .d (.int b)] = .ok (rngL a (b - a).toNat) := if_pos ⟨h, h2⟩
theorem e_R3 {a b : Int} (h : a.natAbs ≤ 1000000) (h2 : b.natAbs ≤ 1000000) : gR3 [.d (.int a), .d (.int b), .d (.int (-1))] = .ok ((List.range (a - b).toNat).map fun k : Nat => .int (a - (k : Int))) := if_pos ⟨rfl, h, h2⟩
@[simp] theorem e_sl (l h) : cSl fa l h env = (fa env).bind fun r => (l env).bind fun lo => (h env).bind fun hi => gSl r lo hi := rfl
@[simp] theorem e_oN : oN env = .ok none := rfl
@[simp] theorem e_isi (T : String) (r : RV) : gIsi T r = (rsO (r.data.bind tyD)).bind fun t => (rsO (kitB t T)).bind okB := rfl
@[simp] theorem e_lc (src own tg t) : cLc src own tg t fa env = (src env).bind fun xs => if xs.length ≤ 1000000 then (lcF tg t fa (wipeE env own) xs).bind fun ds => .ok (.ol ds) else .no := rfl
@[simp] theorem e_wipe0 : wipeE env [] = env := rfl
@[simp] theorem e_wipe1 (is) : wipeE env (i :: is) = (wipeE env is).set i none := rfl
theorem e_unp (tg) : sUnp tg fa env = (fa env).out env fun r => match r.toD with
  | some x => (match tgE tg x env with | some env' => .nx env' | none => .no)
  | none => .no := rfl
theorem e_app : sApp i fa env = match env[i]? with
  | some (some (.ol xs)) => (fa env).out env fun r => (match r.toD with
    | some d => if xs.length ≤ 1000000 then .nx (env.set i (some (.ol (xs ++ [d])))) else .no
    | none => .no)
  | _ => .no := rfl
theorem e_V : cV i env = match env[i]? with
  | some (some r) => .ok r.bor
  | _ => .no := rfl
theorem e_retV : sRetV i env = match env[i]? with
  | some (some r) => (r.nb).out env .rt
  | _ => .no := rfl
end
/-! ### subscripts -/
theorem atI_lt {α : Type} {xs : List α} {i : Int} (h0 : 0 ≤ i) (h : i < xs.length) : atI xs i = xs[i.toNat]? := by
  unfold atI ixN
  rw [if_pos h0, if_pos h]
  rfl
@[simp] theorem atI_zero {α : Type} (x : α) (xs : List α) : atI (x :: xs) 0 = some x := by
  have h : 0 < (x :: xs).length := by simp
  rw [atI_lt (Int.le_refl 0) (by omega)]
  rfl
theorem rngL_eq (n : Nat) : rngL 0 n = (List.range n).map fun k : Nat => .int (k : Int) := by
  unfold rngL
  congr 1
  funext k
  simp
/-! ### shapes -/
@[simp] theorem sh_int (i : Int) : SeqAt.shaped (.int i) = true := rfl
@[simp] theorem sh_none : SeqAt.shaped .none = true := rfl
@[simp] theorem sh_bool (b : Bool) : SeqAt.shaped (.bool b) = true := rfl
theorem can_ints : ∀ ns : List Int, PyData.canLayAll0 (ns.map .int) = true
  | [] => rfl
  | n :: ns => can_ints ns
theorem dep_ints : ∀ ns : List Int, PyData.depthAll (ns.map .int) = 0
  | [] => rfl
  | n :: ns => by rw [List.map_cons, PyData.depthAll, PyData.depth, dep_ints ns]; rfl
@[simp] theorem sh_tup (ns : List Int) : SeqAt.shaped (.tuple (ns.map .int)) = true := by
  unfold SeqAt.shaped
  rw [PyData.depth, dep_ints, PyData.canLay0, can_ints]
  rfl
@[simp] theorem sh_lst (ns : List Int) : SeqAt.shaped (.list (ns.map .int)) = true := by
  unfold SeqAt.shaped
  rw [PyData.depth, dep_ints, PyData.canLay0, can_ints]
  rfl
@[simp] theorem eqv_int (i j : Int) : PyData.eqv (.int i) (.int j) = decide (i = j) := by
  rw [PyData.eqv]
  by_cases h : i = j <;> simp [h]
theorem eqvAll_ints : ∀ xs ys : List Int, PyData.eqvAll (xs.map .int) (ys.map .int) = decide (xs = ys)
  | [], [] => rfl
  | [], _ :: _ => rfl
  | _ :: _, [] => rfl
  | x :: xs, y :: ys => by
    rw [List.map_cons, List.map_cons, PyData.eqvAll, eqvAll_ints xs ys, eqv_int]
    by_cases h : x = y <;> by_cases h2 : xs = ys <;> simp [h, h2]
@[simp] theorem eqv_tup (xs ys : List Int) : PyData.eqv (.tuple (xs.map .int)) (.tuple (ys.map .int)) = decide (xs = ys) := by rw [PyData.eqv, eqvAll_ints]
@[simp] theorem eqv_lst (xs ys : List Int) : PyData.eqv (.list (xs.map .int)) (.list (ys.map .int)) = decide (xs = ys) := by rw [PyData.eqv, eqvAll_ints]
theorem anyI (ns : List Int) (i : Int) : ((ns.map PyData.int).any fun z => PyData.eqv z (.int i)) = decide (i ∈ ns) := by
  rw [List.any_map]
  induction ns with
  | nil => rfl
  | cons n ns ih =>
    rw [List.any_cons, ih]
    simp only [Function.comp, eqv_int]
    by_cases h : n = i
    · simp [h]
    · by_cases h2 : i ∈ ns <;> simp [h, h2, Ne.symm h]
@[simp] theorem anyI' (ns : List Int) (i : Int) : (ns.any ((fun z => PyData.eqv z (.int i)) ∘ PyData.int)) = decide (i ∈ ns) := by rw [← List.any_map]; exact anyI ns i
end VL

namespace VL
open PySem PySem.Spec PyProof.Rows L2
/-! ## more constructs -/
section
variable {K : PySem.W.Frag} {ca : CA}
def gRep (a b : RV) : Rs RV := match b with
  | .d (.int k) => (rsO a.lv).bind fun xs => if k.natAbs ≤ 1000000 ∧ xs.length * k.toNat ≤ 1000000 then .ok (.ol (List.replicate k.toNat xs).flatten) else .no
  | _ => .no
theorem DqA.rep {F : Hp} {ds : List PyData} {vs : List V} (h : DqA K F vs ds) : ∀ k : Nat, DqA K F (List.replicate k vs).flatten (List.replicate k ds).flatten
  | 0 => .nil
  | k + 1 => by
    rw [List.replicate_succ, List.replicate_succ, List.flatten_cons, List.flatten_cons]
    exact h.append (DqA.rep h k)
theorem s_rep : Op2S K ca rRep gRep := by
  intro W σ F0 H0 F H v1 v2 a b Q gr h1 h2 p
  unfold gRep at p
  split at p
  · rename_i k
    cases h2
    cases e : a.lv with
    | none => rw [e] at p; exact p.elim
    | some xs =>
      rw [e] at p
      simp only [rsO_some, Rs.bind_ok] at p
      split at p
      · rename_i hk
        obtain ⟨p1, vs, rfl, a1, q1⟩ := lv_ok gr.cfg.sub h1 e
        refine ⟨p1, k, vs, rfl, rfl, a1, by omega, by omega, ?_, fun l hl => ?_⟩
        · rw [q1.length]; exact Nat.le_of_lt (million hk.2)
        · have g2 := Grow.newO gr.cfg (.lst (List.replicate k.toNat vs).flatten) hl (fun _ z => by cases z)
          exact p _ _ _ (gr.trans g2) ⟨l, _, rfl, none_n gr.hh hl, same_none gr.cfg.sub hl, upd_same, q1.rep k.toNat⟩
      · exact p.elim
  · exact p.elim
end
section
variable {ca : CA} {W : WX} {X : Cx} {a b c e : Expr} {es : List Expr} {fa fb fc : VEnv → Rs RV} {pos : Pos} {st : Stmt}
def sNo : VEnv → Out := fun _ => .no
theorem vs_never : VS ca W X st sNo := ⟨_, ps_never, fun _ _ _ _ _ _ _ p => p.elim⟩
/-! ### a list or a tuple walked -/
def iAny (K : PySem.W.Frag) (tl : TE) : TI := fun σ H R => tl σ H fun x H1 => ∃ a, x = .ref a ∧ (((∃ xs, SqL K H1 a xs) ∧ R (Itl K a) H1) ∨ ((∃ xs, SqT K H1 a xs) ∧ R (Itt K a) H1))
theorem pi_any {tg : Expr} {tl : TE} (hl : PE X e tl) : PI X tg e (iAny X.K tl) := by
  refine ⟨fun pns s0 σ H R I hyp => ?_⟩
  refine thn (hl.run pns s0 σ H _ I hyp) fun v s1 ⟨x, H1, I1, r1, a, ex, alt⟩ => ?_
  subst ex
  cases r1
  have fresh : ∀ b ∈ [s1.heap.objs.size], b = s1.heap.objs.size := fun b hb => by simpa using hb
  rcases alt with ⟨⟨xs, hq⟩, q⟩ | ⟨⟨xs, hq⟩, q⟩
  · obtain ⟨its, rv, pl, hz⟩ := I1.list hq
    refine wpAny_pyIter_list pl.isList ⟨s1.heap.objs.size, [s1.heap.objs.size], _, _, H1, rfl, I1.kept (t' := s1.toks) fun _ _ k => Heap.get?_push_of_some _ k, turn_list a _, ⟨_, Heap.get?_push_size _ rfl, rfl, rfl⟩, fun b hb => ?_, q⟩
    have eb := fresh b hb
    subst eb
    exact I1.fpOk (Nat.le_refl _) (I1.hok.fresh (Nat.le_refl _))
  · obtain ⟨its, rv, pl, hz⟩ := I1.tuple hq
    have pt : s1.heap.IsTuple a its.toArray := pl
    refine wpAny_pyIter_tuple pt ⟨s1.heap.objs.size, [s1.heap.objs.size], _, _, H1, rfl, I1.kept (t' := s1.toks) fun _ _ k => Heap.get?_push_of_some _ k, turn_tuple a _, ⟨_, Heap.get?_push_size _ rfl, rfl, rfl⟩, fun b hb => ?_, q⟩
    have eb := fresh b hb
    subst eb
    exact I1.fpOk (Nat.le_refl _) (I1.hok.fresh (Nat.le_refl _))
def gAq : RV → Rs (List PyData)
  | .d (.tuple xs) => .ok xs
  | r => gL r
def gAqb : RV → Rs (List PyData)
  | .d (.tuple xs) => .ok xs
  | r => gLb r
def iA (fe : VEnv → Rs RV) : VEnv → Rs (List PyData) := fun env => (fe env).bind gAq
def iAb (fe : VEnv → Rs RV) : VEnv → Rs (List PyData) := fun env => (fe env).bind gAqb
theorem vi_any {tg : Expr} (h : VE ca W X e fa) : VI ca W X tg e (iA fa) := by
  obtain ⟨t, p, s⟩ := h
  refine ⟨_, pi_any p, fun B F env σ H R st q => ?_⟩
  show t σ H fun x H1 => ∃ a, x = .ref a ∧ (((∃ xs, SqL X.K H1 a xs) ∧ R (Itl X.K a) H1) ∨ ((∃ xs, SqT X.K H1 a xs) ∧ R (Itt X.K a) H1))
  refine seqE (PostI X.K ca W σ F H R) s st q (fun _ _ h => h) (fun h => h) fun r F1 H1 v p1 g1 q1 => ?_
  cases r with
  | d x =>
    cases x with
    | list xs =>
      cases q1 with
      | lst h1 h2 => exact ⟨_, rfl, .inl ⟨⟨_, SqL.of (g1.cfg.sub _ _ h1)⟩, p1 _ F1 H1 _ g1 h2 (jw_list (SqL.of h1))⟩⟩
    | tuple xs =>
      cases q1 with
      | tup h1 h2 => exact ⟨_, rfl, .inr ⟨⟨_, same_seqT g1.cfg.sub h1.1⟩, p1 _ F1 H1 _ g1 h2 (jw_tup h1.1)⟩⟩
    | _ => exact p1.elim
  | ol xs =>
    obtain ⟨p, vs, rfl, n0, f, hp, q2⟩ := q1
    have g2 := g1.freeze n0 f hp
    have s2 : Same F1 (upd F1 p (.lst vs)) := fun b u k => by rw [upd_ne (ne_of_none k f)]; exact k
    exact ⟨p, rfl, .inl ⟨⟨_, SqL.of hp⟩, p1 _ _ H1 vs g2 (DqA.mono s2 _ _ q2) (jw_list (SqL.of upd_same))⟩⟩
  | sc ns =>
    obtain ⟨a, rfl, q2⟩ := q1
    exact ⟨a, rfl, .inl ⟨⟨_, g1.cfg.sub.seq q2⟩, p1 _ F1 H1 _ g1 (DqA.of_ints ns) (jw_list q2)⟩⟩
  | _ => exact p1.elim
theorem vj_any {tg : Expr} (h : VE ca W X e fa) : VJ ca W X tg e (iAb fa) := by
  obtain ⟨t, p, s⟩ := h
  refine ⟨_, pi_any p, fun B F env σ H R st q => ?_⟩
  show t σ H fun x H1 => ∃ a, x = .ref a ∧ (((∃ xs, SqL X.K H1 a xs) ∧ R (Itl X.K a) H1) ∨ ((∃ xs, SqT X.K H1 a xs) ∧ R (Itt X.K a) H1))
  refine seqE (PostJ X.K ca W σ F H R) s st q (fun _ _ h => h) (fun h => h) fun r F1 H1 v p1 g1 q1 => ?_
  cases r with
  | d x =>
    cases x with
    | list xs =>
      cases q1 with
      | lst h1 h2 => exact ⟨_, rfl, .inl ⟨⟨_, SqL.of (g1.cfg.sub _ _ h1)⟩, p1 _ F1 H1 _ g1 h2 (jw_list (SqL.of (g1.cfg.sub _ _ h1)))⟩⟩
    | tuple xs =>
      cases q1 with
      | tup h1 h2 => exact ⟨_, rfl, .inr ⟨⟨_, same_seqT g1.cfg.sub h1.1⟩, p1 _ F1 H1 _ g1 h2 (jw_tup (same_seqT g1.cfg.sub h1.1))⟩⟩
    | _ => exact p1.elim
  | ol xs =>
    obtain ⟨p, vs, rfl, n0, f, hp, q2⟩ := q1
    exact ⟨p, rfl, .inl ⟨⟨_, SqL.of hp⟩, p1 _ _ H1 vs g1 q2 (jw_list (SqL.of hp))⟩⟩
  | bl xs =>
    obtain ⟨p, vs, rfl, hp, q2⟩ := q1
    exact ⟨p, rfl, .inl ⟨⟨_, SqL.of hp⟩, p1 _ _ H1 vs g1 q2 (jw_list (SqL.of hp))⟩⟩
  | sc ns =>
    obtain ⟨a, rfl, q2⟩ := q1
    exact ⟨a, rfl, .inl ⟨⟨_, g1.cfg.sub.seq q2⟩, p1 _ F1 H1 _ g1 (DqA.of_ints ns) (jw_list (g1.cfg.sub.seq q2))⟩⟩
  | _ => exact p1.elim
@[simp] theorem e_iA (env : VEnv) : iA fa env = (fa env).bind gAq := rfl
@[simp] theorem e_iAb (env : VEnv) : iAb fa env = (fa env).bind gAqb := rfl
@[simp] theorem e_gAq1 (xs) : gAq (.d (.tuple xs)) = .ok xs := rfl
@[simp] theorem e_gAq2 (xs) : gAq (.d (.list xs)) = .ok xs := rfl
@[simp] theorem e_gAq3 (xs) : gAq (.ol xs) = .ok xs := rfl
@[simp] theorem e_gAqb1 (xs) : gAqb (.d (.tuple xs)) = .ok xs := rfl
@[simp] theorem e_gAqb2 (xs) : gAqb (.d (.list xs)) = .ok xs := rfl
@[simp] theorem e_gAqb3 (xs) : gAqb (.ol xs) = .ok xs := rfl
@[simp] theorem e_gAqb4 (xs) : gAqb (.bl xs) = .ok xs := rfl
@[simp] theorem e_no (env : VEnv) : sNo env = .no := rfl
theorem e_rep {xs : List PyData} {k : Int} {r : RV} (h : r.lv = some xs) (h1 : k.natAbs ≤ 1000000) (h2 : xs.length * k.toNat ≤ 1000000) : gRep r (.d (.int k)) = .ok (.ol (List.replicate k.toNat xs).flatten) := by
  show (rsO r.lv).bind _ = _
  rw [h]
  simp only [rsO_some, Rs.bind_ok]
  rw [if_pos ⟨h1, h2⟩]
theorem e_store (i : Nat) (fi fe : VEnv → Rs RV) (env : VEnv) : sStore i fi fe env = match env[i]? with
  | some (some (.ol xs)) => (fe env).out env fun r => (fi env).out env fun ix => (match r.toD, ix with
    | some d, .d (.int k) => (match ixN xs.length k with
      | some j => .nx (env.set i (some (.ol (xs.set j d))))
      | none => .no)
    | _, _ => .no)
  | _ => .no := rfl
/-! ### a < b < c -/
def cChI (g g' : RV → RV → Rs RV) (fc : VEnv → Rs RV) (env : VEnv) : RV → RV → Rs RV
  | .d (.int m), .d (.int n) => (g (.d (.int m)) (.d (.int n))).bind fun r => (asB r).bind fun k => if k = true then (fc env).bind fun z => g' (.d (.int n)) z else .ok (.d (.bool false))
  | _, _ => .no
def cCh (g g' : RV → RV → Rs RV) (fa fb fc : VEnv → Rs RV) : VEnv → Rs RV := fun env => (fa env).bind fun x => (fb env).bind fun y => cChI g g' fc env x y
@[simp] theorem e_cCh (g g') (env : VEnv) : cCh g g' fa fb fc env = (fa env).bind fun x => (fb env).bind fun y => cChI g g' fc env x y := rfl
@[simp] theorem e_cChI (g g') (env : VEnv) (m n : Int) : cChI g g' fc env (.d (.int m)) (.d (.int n)) = (g (.d (.int m)) (.d (.int n))).bind fun r => (asB r).bind fun k => if k = true then (fc env).bind fun z => g' (.d (.int n)) z else .ok (.d (.bool false)) := rfl
theorem snd_chain {K : PySem.W.Frag} {r r' : R2} {g g' : RV → RV → Rs RV} {ta tb tc : TE} (hr : Op2S K ca r g) (hr' : Op2S K ca r' g') (sa : SndE K ca W ta fa) (sb : SndE K ca W tb fb) (sc : SndE K ca W tc fc) : SndE K ca W (tChain r r' ta tb tc) (cCh g g' fa fb fc) := by
  intro B F env σ H Q st p
  show ta σ H fun x H1 => tb σ H1 fun y H2 => r x y H2 fun z H3 => ∃ k, z = .bl k ∧ (if k = true then tc σ H3 fun w' H4 => r' y w' H4 Q else Q (.bl false) H3)
  refine seqE (PostE K ca W σ F H Q) sa st p (fun _ _ h => h) (fun h => h) fun x F1 H1 v1 p1 g1 q1 => ?_
  refine seqE (PostE K ca W σ F H Q) sb (st.grow g1) p1 (fun _ _ h => PostX.mono g1 h) (fun h => h) fun y F2 H2 v2 p2 g2 q2 => ?_
  have g02 := g1.trans g2
  unfold cChI at p2
  split at p2
  · rename_i m n
    cases q1
    cases q2
    refine hr W σ F2 H2 F2 H2 _ _ (.d (.int m)) (.d (.int n)) _ (Grow.refl g2.cfg) (.int _) (.int _) ?_
    cases e : g (.d (.int m)) (.d (.int n)) with
    | ex c fs => rw [e] at p2; exact PostX.mono g02 p2
    | no => rw [e] at p2; exact p2
    | ok z =>
      rw [e] at p2
      simp only [Rs.bind_ok] at p2
      intro F3 H3 v3 g3 q3
      have g03 := g02.trans g3
      unfold asB at p2
      split at p2
      · rename_i k
        cases q3
        refine ⟨k, rfl, ?_⟩
        cases k with
        | false =>
          rw [if_neg Bool.false_ne_true]
          simp only [Rs.bind_ok, Bool.false_ne_true, if_false] at p2
          exact p2 F3 H3 _ g03 (.bl _)
        | true =>
          rw [if_pos rfl]
          simp only [Rs.bind_ok, if_true] at p2
          refine seqE (PostE K ca W σ F H Q) sc (st.grow g03) p2 (fun _ _ h => PostX.mono g03 h) (fun h => h) fun w F4 H4 v4 p4 g4 q4 => ?_
          exact hr' W σ F H F4 H4 _ v4 (.d (.int n)) w Q (g03.trans g4) (.int _) (q4.older g03.hh) p4
      · exact p2.elim
  · exact p2.elim
theorem ve_chain {op op' : CmpOp} {r r' : R2} {g g' : RV → RV → Rs RV} (ho : OpR X (compareOp op) r) (hr : Op2S X.K ca r g) (ho' : OpR X (compareOp op') r') (hr' : Op2S X.K ca r' g') (ha : VE ca W X a fa) (hb : VE ca W X b fb) (hc : VE ca W X c fc)
    (hm : lastMarks [op, op'] [b, c] = false := by with_unfolding_all rfl) : VE ca W X (.Compare a [op, op'] [b, c] pos) (cCh g g' fa fb fc) := by
  obtain ⟨ta, pa, sa⟩ := ha
  obtain ⟨tb, pb, sb⟩ := hb
  obtain ⟨tc, pc, sc⟩ := hc
  exact ⟨_, pe_chain ho ho' pa pb pc hm, snd_chain hr hr' sa sb sc⟩
theorem vt_chain {op op' : CmpOp} {r r' : R2} {g g' : RV → RV → Rs RV} (ho : OpR X (compareOp op) r) (hr : Op2S X.K ca r g) (ho' : OpR X (compareOp op') r') (hr' : Op2S X.K ca r' g') (ha : VE ca W X a fa) (hb : VE ca W X b fb) (hc : VE ca W X c fc)
    (hm : lastMarks [op, op'] [b, c] = false := by with_unfolding_all rfl) : VT ca W X (.Compare a [op, op'] [b, c] pos) (cB (cCh g g' fa fb fc)) := by
  obtain ⟨ta, pa, sa⟩ := ha
  obtain ⟨tb, pb, sb⟩ := hb
  obtain ⟨tc, pc, sc⟩ := hc
  exact ⟨_, pt_chain ho ho' pa pb pc hm, snd_test (snd_chain hr hr' sa sb sc)⟩
end
end VL

namespace VL
open PySem PySem.Spec PyProof.Rows L2
theorem e_fzE (i : Nat) (env : VEnv) : fzE i env = match env[i]? with
  | some (some (.ol xs)) => env.set i (some (.d (.list xs)))
  | _ => env := rfl
theorem tyD_list (xs) : tyD (.list xs) = some "list" := rfl
theorem tyD_tuple (xs) : tyD (.tuple xs) = some "tuple" := rfl
theorem tyD_int (a) : tyD (.int a) = some "int" := rfl
theorem kitB_ll : kitB "list" "list" = some true := by decide +kernel
theorem kitB_tt : kitB "tuple" "tuple" = some true := by decide +kernel
theorem kitB_lt : kitB "list" "tuple" = some false := by decide +kernel
theorem kitB_tl : kitB "tuple" "list" = some false := by decide +kernel
theorem kitB_ii : kitB "int" "int" = some true := by decide +kernel

theorem atI_cons {α : Type} (xs : List α) (n : Nat) (h : n < xs.length) : atI xs (n : Int) = xs[n]? := by
  rw [atI_lt (by omega) (by omega)]; rfl
theorem e_at1 {α : Type} (x0 x1 : α) (xs : List α) : atI (x0 :: x1 :: xs) 1 = some x1 := atI_cons _ 1 (by simp)
theorem e_at2 {α : Type} (x0 x1 x2 : α) (xs : List α) : atI (x0 :: x1 :: x2 :: xs) 2 = some x2 := atI_cons _ 2 (by simp)
theorem e_at3 {α : Type} (x0 x1 x2 x3 : α) (xs : List α) : atI (x0 :: x1 :: x2 :: x3 :: xs) 3 = some x3 := atI_cons _ 3 (by simp)
theorem e_at4 {α : Type} (x0 x1 x2 x3 x4 : α) (xs : List α) : atI (x0 :: x1 :: x2 :: x3 :: x4 :: xs) 4 = some x4 := atI_cons _ 4 (by simp)
theorem e_at5 {α : Type} (x0 x1 x2 x3 x4 x5 : α) (xs : List α) : atI (x0 :: x1 :: x2 :: x3 :: x4 :: x5 :: xs) 5 = some x5 := atI_cons _ 5 (by simp)
theorem e_at6 {α : Type} (x0 x1 x2 x3 x4 x5 x6 : α) (xs : List α) : atI (x0 :: x1 :: x2 :: x3 :: x4 :: x5 :: x6 :: xs) 6 = some x6 := atI_cons _ 6 (by simp)
theorem e_at7 {α : Type} (x0 x1 x2 x3 x4 x5 x6 x7 : α) (xs : List α) : atI (x0 :: x1 :: x2 :: x3 :: x4 :: x5 :: x6 :: x7 :: xs) 7 = some x7 := atI_cons _ 7 (by simp)
theorem e_at8 {α : Type} (x0 x1 x2 x3 x4 x5 x6 x7 x8 : α) (xs : List α) : atI (x0 :: x1 :: x2 :: x3 :: x4 :: x5 :: x6 :: x7 :: x8 :: xs) 8 = some x8 := atI_cons _ 8 (by simp)
theorem e_at9 {α : Type} (x0 x1 x2 x3 x4 x5 x6 x7 x8 x9 : α) (xs : List α) : atI (x0 :: x1 :: x2 :: x3 :: x4 :: x5 :: x6 :: x7 :: x8 :: x9 :: xs) 9 = some x9 := atI_cons _ 9 (by simp)
theorem e_atm {α : Type} (xs : List α) (x : α) : atI (xs ++ [x]) (-1) = some x := by
  have h : ixN (xs ++ [x]).length (-1) = some xs.length := by
    unfold ixN
    rw [if_neg (by decide), if_pos (by simp; omega)]
    congr 1
    simp
    omega
  unfold atI
  rw [h]
  simp
theorem eqv_bool (a b : Bool) : PyData.eqv (.bool a) (.bool b) = (a == b) := by cases a <;> cases b <;> rfl
theorem eqv_none : PyData.eqv .none .none = true := rfl
theorem tyD_bool (a) : tyD (.bool a) = some "bool" := rfl
theorem tyD_str (a) : tyD (.str a) = some "str" := rfl
theorem tyD_none : tyD .none = some "NoneType" := rfl
theorem kitB_bb : kitB "bool" "bool" = some true := by decide +kernel
theorem kitB_nb : kitB "NoneType" "bool" = some false := by decide +kernel
theorem kitB_bi : kitB "bool" "int" = some true := by decide +kernel
theorem kitB_ib : kitB "int" "bool" = some false := by decide +kernel
theorem kitB_nl : kitB "NoneType" "list" = some false := by decide +kernel
theorem kitB_nt : kitB "NoneType" "tuple" = some false := by decide +kernel
theorem e_andB (a b : Bool) : (if a = true then Rs.ok (RV.d (.bool b)) else Rs.ok (RV.d (.bool false))) = .ok (.d (.bool (a && b))) := by cases a <;> rfl
theorem e_orB (a b : Bool) : (if a = true then Rs.ok (RV.d (.bool true)) else Rs.ok (RV.d (.bool b))) = .ok (.d (.bool (a || b))) := by cases a <;> rfl
theorem e_andR (a b : Bool) : (if a = true then Rs.ok b else Rs.ok false) = .ok (a && b) := by cases a <;> rfl
theorem e_orR (a b : Bool) : (if a = true then Rs.ok true else Rs.ok b) = .ok (a || b) := by cases a <;> rfl

end VL

namespace VL
open PySem PySem.Spec PyProof.Rows L2
/-! ## defs with keyword-only parameters -/
section
variable {ca : CA} {W : WX} {X : Cx} {e : Expr} {es : List Expr} {pos kpos : Pos} {nm : Option Str} {kws : List Keyword}
theorem fnD_ok {P : Program} {w : World} {K : PySem.W.Frag} {mg : Str → Option Value} {base : Heap} {x qual : Str} {sd : Stmt} {dl : List (Str × V)} {fA : Addr} {fd : FuncData} {N ps : List Str} {k : Nat} {body : VEnv → Out} (F : FunD K x qual (defArgs sd) (defBody sd) (defScope sd) [] dl fA fd) (S : FnScope N ps (defScope sd))
    (hb : ∀ (cdv : Value) (A : Around) (outer : List PySem.Env) (s : Shared) (H : Hp) (E : XK), Room k (A.deeper (envOfC qual (defScope sd) s.heap.objs.size fA cdv)) → Takes (cxOf (L2.CX P w) P w K mg base N qual (defScope sd) fA cdv A outer s H E) (fun cls dx _ H' => E cls dx H') →
      PassesOwn (model P w) (A.deeper (envOfC qual (defScope sd) s.heap.objs.size fA cdv)) (envOfC qual (defScope sd) s.heap.objs.size fA cdv) (cxOf (L2.CX P w) P w K mg base N qual (defScope sd) fA cdv A outer s H E).xe →
      VSs ca (fun cls dx _ H' => E cls dx H') (cxOf (L2.CX P w) P w K mg base N qual (defScope sd) fA cdv A outer s H E) (defBody sd) body) : FnOk P w K mg base (L2.CX P w) (k + 1) fA fd ps (spV K ca ps.length (fnD N.length body)) := by
  refine F.ok S (fun vs H Q E h => h.1) (fun cdv A outer s H vs Q E hr h => ?_)
  obtain ⟨hl, G, rs, c, tb, pr, q⟩ := h
  obtain ⟨t, p, sn⟩ := hb cdv A outer s H E hr (takes_of rfl rfl rfl rfl) (passes_of rfl)
  refine ⟨t, p, sn { F := G, H := H } G _ _ H _ (start_ok N c tb pr) ?_⟩
  unfold fnD at q
  generalize hB : body (rs.map some ++ List.replicate (N.length - rs.length) none) = o at q ⊢
  cases o with
  | nx env => exact fun F' σ' H' s st => q F' H' .non st.gr .non
  | rt r => exact fun F' H' v g r => q F' H' v g r
  | rm o d => exact q.elim
  | ex c fs env => exact fun F' σ' H' cls dx s st x => q F' H' cls dx st.gr x
  | bk env => exact q.elim
  | ct env => exact q.elim
  | no => exact q.elim
theorem paired_app {α β : Type} {R : α → β → Prop} : ∀ {as : List α} {bs : List β} {cs : List α} {ds : List β}, Paired R as bs → Paired R cs ds → Paired R (as ++ cs) (bs ++ ds)
  | _, _, _, _, .nil, h => h
  | _, _, _, _, .cons a b, h => .cons a (paired_app b h)
theorem paired_D {K : PySem.W.Frag} {H0 F H : Hp} : ∀ {vs : List V} {ds : List PyData}, DqA K F vs ds → Paired (fun v r => RVok K H0 F H v r) vs (ds.map RV.d)
  | _, _, .nil => .nil
  | _, _, .cons a b => .cons a (paired_D b)
def KDs (K : PySem.W.Frag) (D : Addr) (l : List (Str × V)) : Prop := ∀ q ∈ l, ∃ u, PySem.W.nsIn K D q.1 = some (some u) ∧ RelV q.2 u
theorem kd_nil {K : PySem.W.Frag} {D : Addr} : KDs K D [] := fun _ h => absurd h (by simp)
theorem kd_cons {K : PySem.W.Frag} {D : Addr} {x : Str} {v : V} {u : Value} {l : List (Str × V)} (h : PySem.W.nsIn K D x = some (some u)) (r : RelV v u) (t : KDs K D l) : KDs K D ((x, v) :: l) := fun q hq => by
  rcases List.mem_cons.mp hq with rfl | hq
  · exact ⟨u, h, r⟩
  · exact t q hq
theorem fund_mk {K : PySem.W.Frag} {x qual : Str} {params : Arguments} {body : List Stmt} {scope : Scope} {f D : Addr} {dl : List (Str × V)} {oc doc pm cdv ct : Value} {od an : Option Addr} {osl : Array (Option Value)}
    (l : K.lookup f = some ⟨oc, od, .func (PySem.W.fnOf x qual params body scope .none (.ref D) doc pm an cdv ct), osl⟩) (c : PySem.W.codeIn K cdv qual = true) (k : PySem.W.keepIn K (.ref f) = true) (h : KDs K D dl) : FunD K x qual params body scope [] dl f (PySem.W.fnOf x qual params body scope .none (.ref D) doc pm an cdv ct) :=
  ⟨⟨_, _, _, _, _, _, _, _, _, _, rfl, l, c, .inl ⟨rfl, rfl⟩, .inr ⟨D, rfl, h⟩⟩, k⟩
/-- what is written for the values that lack: data that stands in K -/
def Still (K : PySem.W.Frag) (dvs : List V) (dds : List PyData) : Prop := ∀ F, DqA K F dvs dds
/-- a call where all keyword-only values lack -/
def DBn (K : PySem.W.Frag) (fd : FuncData) (ps : List Str) (dds : List PyData) : Prop := ∃ dvs, (∃ ds, Vals dvs ds ∧ Binds K fd ps ds) ∧ Still K dvs dds
/-- a call with n positional values and the keywords ks; dds: the data that lacks -/
def KDB (K : PySem.W.Frag) (fd : FuncData) (ps : List Str) (n : Nat) (ks : List Str) (dds : List PyData) : Prop := ∃ mz, (∃ mv, KBn K fd ps n ks (fun us ws => us ++ (ws ++ mv)) (fun vs zs => vs ++ (zs ++ mz))) ∧ Still K mz dds
/-- the values that defaults may be -/
theorem still_nil {K : PySem.W.Frag} : Still K [] [] := fun _ => .nil
theorem still_cons {K : PySem.W.Frag} {v : V} {d : PyData} {vs : List V} {ds : List PyData} (h : ∀ F, Dq K F v d) (t : Still K vs ds) : Still K (v :: vs) (d :: ds) := fun F => .cons (h F) (t F)
theorem still_tup0 {K : PySem.W.Frag} {T : Addr} {n : Nat} {sl : Array (Option Value)} (l : K.lookup T = some ⟨.type "tuple", none, .seq #[] n, sl⟩) (F : Hp) : Dq K F (.ref T) (.tuple []) := .tup ⟨.inr ⟨_, _, _, l, rfl, rfl, Nat.zero_le _, .nil⟩, .inr ⟨_, l, rfl⟩⟩ .nil
/-- f(e, ..) where keyword-only values lack -/
theorem ve_callD {fA : Addr} {fd : FuncData} {ps : List Str} {x : Str} {p : Pos} {k n m : Nat} {dds : List PyData} {G : List RV → Rs RV} {f : VEnv → Rs (List RV)} (Fo : FnOk X.prog X.w X.K X.mg X.base (L2.CX X.prog X.w) k fA fd ps (spV X.K ca n G)) (hr : Room k X.A) (hg : Gl X x) (hm : X.mg x = some (.ref fA)) (hk : PySem.W.keepIn X.K (.ref fA) = true) (hb : DBn X.K fd ps dds) (tk : Takes X W)
    (ha : VA ca W X (e :: es) f) (hn : m + dds.length = n := by rfl) (hdb : (x == ("__debug__" : Str)) = false := by decide) (he : starEach (e :: es) X.env = (false, eval e X.env) :: starEach es X.env := by rfl) (hpl : (backTo pos (starEach es X.env)).any (·.1) = false := by rfl) :
    VE ca W X (.Call (.Name x p) (e :: es) [] pos) (cA (fun rs => if rs.length = m then G (rs.map RV.arg ++ dds.map RV.d) else .no) f) := by
  obtain ⟨t, pa, sa⟩ := ha
  obtain ⟨dvs, ⟨ds, hd, hb⟩, hS⟩ := hb
  refine ⟨_, pe_callSD Fo hr hg hm hk hb hd (fun σ => passAt tk σ) pa hdb he hpl, fun B F env σ H Q st q => ?_⟩
  show t σ H fun vs H1 => spV X.K ca n G (vs ++ dvs) H1 Q (WE W σ)
  refine seqA (PostE X.K ca W σ F H Q) sa st q (fun _ _ h => h) (fun h => h) fun rs F1 H1 vs p1 g1 q1 => ?_
  split at p1
  · rename_i hl
    obtain ⟨F2, g2, s2, q2⟩ := args_go g1 (Same.refl _) q1
    have q3 : Paired (fun v r => RVok X.K H1 F2 H1 v r) (vs ++ dvs) (rs.map RV.arg ++ dds.map RV.d) := paired_app q2 (paired_D (hS F2))
    refine ⟨by rw [Paired.length q3, List.length_append, List.length_map, List.length_map, hl, hn], F2, _, g2.cfg, st.rg.tb.grow g2, q3, ?_⟩
    cases e1 : G (rs.map RV.arg ++ dds.map RV.d) with
    | ok r => rw [e1] at p1; exact fun G' H' v gg rr => p1 G' H' v (g2.trans gg) (rr.older g2.hh)
    | ex c fs => rw [e1] at p1; exact fun G' H' cls dx gg x => p1 G' H' cls dx (g2.trans gg) x
    | no => rw [e1] at p1; exact p1
  · exact p1.elim
/-! ### f(e, .., k = v, ..) -/
/-- the keywords' values -/
def VK1 (ca : CA) (W : WX) (X : Cx) (kws : List Keyword) (f : VEnv → Rs (List RV)) : Prop := ∃ t, PK X kws t ∧ SndA X.K ca W t f
theorem vk_nil : VK1 ca W X [] aN := ⟨_, pk_nil, fun _ _ _ _ _ _ st p => p _ _ _ (Grow.refl st.cfg) .nil⟩
theorem vk_cons {f : VEnv → Rs RV} {g : VEnv → Rs (List RV)} (he : VE ca W X e f) (hr : VK1 ca W X kws g) : VK1 ca W X (⟨nm, e, kpos⟩ :: kws) (aC f g) := by
  obtain ⟨te, pe, se⟩ := he
  obtain ⟨tr, pr, sr⟩ := hr
  refine ⟨_, pk_cons pe pr, fun B F env σ H Q st p => ?_⟩
  show te σ H fun x H1 => tr σ H1 fun xs H2 => Q (x :: xs) H2
  refine seqE (PostA X.K ca W σ F H Q) se st p (fun _ _ h => h) (fun h => h) fun x F1 H1 v1 p1 g1 q1 => ?_
  refine seqA (PostA X.K ca W σ F H Q) sr (st.grow g1) p1 (fun _ _ h => PostX.mono g1 h) (fun h => h) fun xs F2 H2 vs p2 g2 q2 => ?_
  exact p2 F2 H2 (v1 :: vs) (g1.trans g2) (.cons (q1.grow g2) (paired_older g1.hh q2))
def tCallKW (n m : Nat) (sp : Sp) (mz : List V) (W : WX) (t tk : TA) : TE := fun σ H Q => t σ H fun vs H1 => tk σ H1 fun zs H2 => vs.length = n ∧ zs.length = m ∧ sp (vs ++ (zs ++ mz)) H2 Q (WE W σ)
theorem pe_callKW {CX : CXT} {k n : Nat} {f : Addr} {fd : FuncData} {ps ks : List Str} {sp : Sp} {x : Str} {p : Pos} {mv : List Value} {mz : List V} {t tk : TA} (F : FnOk X.prog X.w X.K X.mg X.base CX k f fd ps sp) (hr : Room k X.A) (hg : Gl X x) (hm : X.mg x = some (.ref f)) (hk : PySem.W.keepIn X.K (.ref f) = true)
    (hb : KBn X.K fd ps n ks (fun us ws => us ++ (ws ++ mv)) (fun vs zs => vs ++ (zs ++ mz))) (hx : ∀ σ, PassesAt CX X σ (WE W σ)) (ha : PA X (e :: es) t) (hkw : PK X kws tk) (hall : (backToKw pos (keywordEach kws X.env)).all (·.1.isSome) = true) (hks : (backToKw pos (keywordEach kws X.env)).filterMap (·.1) = ks)
    (hdb : (x == ("__debug__" : Str)) = false) (he : starEach (e :: es) X.env = (false, eval e X.env) :: starEach es X.env)
    (hpl : ((backTo pos (starEach (e :: es) X.env)).any (·.1) || (backToKw pos (keywordEach kws X.env)).any (·.1.isNone)) = false) : PE X (.Call (.Name x p) (e :: es) kws pos) (tCallKW n ks.length sp mz W t tk) := by
  refine ⟨fun pins s σ H Q I h => wpAny_Call_Name_kw (ld_glob I hg hm ?_ hdb)⟩
  refine PySem.W.callWith_KW (h₀ := X.base) I.ok.mod.kin hk hall (thn (ha.run pos pins s σ H _ I h) fun us s1 ⟨vs, H1, I1, r, q⟩ => ?_) hpl he
  refine thn (hkw.run pos pins s1 σ H1 _ I1 q) fun ws s2 ⟨zs, H2, I2, rz, l1, l2, q2⟩ => ⟨I2.kIn, ?_⟩
  rw [hks]
  refine wpAny_call (codeAny_mono (F.run X.A X.stack s2 H2 ⟨us, ks.zip ws⟩ (us ++ (ws ++ mv)) (vs ++ (zs ++ mz)) Q (WE W σ) hr I2.env0 (hb.to s2 us ws I2.kIn (r.length.symm.trans l1) (rz.length.symm.trans l2)) (hb.rel r rz) q2) fun r s' hq => ?_)
  cases r with
  | error ev => exact hx σ pins H2 s2 ev s' I2 hq
  | ok fl =>
    cases fl with
    | ret u => exact I2.after hq
    | next => exact hq.elim
    | brk => exact hq.elim
    | cont => exact hq.elim
/-- positional values, then the keywords', then those that lack -/
def cAK (h : List RV → List RV → Rs RV) (f g : VEnv → Rs (List RV)) : VEnv → Rs RV := fun env => (f env).bind fun rs => (g env).bind fun zs => h rs zs
theorem ve_callK {fA : Addr} {fd : FuncData} {ps ks : List Str} {x : Str} {p : Pos} {k n m : Nat} {dds : List PyData} {G : List RV → Rs RV} {f g : VEnv → Rs (List RV)} (Fo : FnOk X.prog X.w X.K X.mg X.base (L2.CX X.prog X.w) k fA fd ps (spV X.K ca n G)) (hr : Room k X.A) (hg : Gl X x) (hm : X.mg x = some (.ref fA)) (hk : PySem.W.keepIn X.K (.ref fA) = true)
    (hb : KDB X.K fd ps m ks dds) (tk : Takes X W)
    (ha : VA ca W X (e :: es) f) (hkw : VK1 ca W X kws g) (hn : m + (ks.length + dds.length) = n := by rfl) (hall : (backToKw pos (keywordEach kws X.env)).all (·.1.isSome) = true := by rfl) (hks : (backToKw pos (keywordEach kws X.env)).filterMap (·.1) = ks := by rfl)
    (hdb : (x == ("__debug__" : Str)) = false := by decide) (he : starEach (e :: es) X.env = (false, eval e X.env) :: starEach es X.env := by rfl)
    (hpl : ((backTo pos (starEach (e :: es) X.env)).any (·.1) || (backToKw pos (keywordEach kws X.env)).any (·.1.isNone)) = false := by rfl) :
    VE ca W X (.Call (.Name x p) (e :: es) kws pos) (cAK (fun rs zs => if rs.length = m ∧ zs.length = ks.length then G (rs.map RV.arg ++ (zs.map RV.arg ++ dds.map RV.d)) else .no) f g) := by
  obtain ⟨t, pa, sa⟩ := ha
  obtain ⟨t2, pk, sk⟩ := hkw
  obtain ⟨mz, ⟨mv, hb⟩, hS⟩ := hb
  refine ⟨_, pe_callKW Fo hr hg hm hk hb (fun σ => passAt tk σ) pa pk hall hks hdb he hpl, fun B F env σ H Q st q => ?_⟩
  show t σ H fun vs H1 => t2 σ H1 fun zs H2 => vs.length = m ∧ zs.length = ks.length ∧ spV X.K ca n G (vs ++ (zs ++ mz)) H2 Q (WE W σ)
  refine seqA (PostE X.K ca W σ F H Q) sa st q (fun _ _ h => h) (fun h => h) fun rs F1 H1 vs p1 g1 q1 => ?_
  refine seqA (PostE X.K ca W σ F H Q) sk (st.grow g1) p1 (fun _ _ h => PostX.mono g1 h) (fun h => h) fun zs F2 H2 ws p2 g2 q2 => ?_
  simp only at p2
  split at p2
  · rename_i hl
    have q1' : Paired (fun v r => RVok X.K H F2 H2 v r) vs rs := paired_grow g2 (paired_older (SameN.refl _) q1)
    have q2' : Paired (fun v r => RVok X.K H F2 H2 v r) ws zs := paired_older g1.hh q2
    obtain ⟨F3, g3, s3, q3⟩ := args_go (g1.trans g2) (Same.refl _) (paired_app q1' q2')
    rw [List.map_append] at q3
    have q4 : Paired (fun v r => RVok X.K H2 F3 H2 v r) (vs ++ (ws ++ mz)) (rs.map RV.arg ++ (zs.map RV.arg ++ dds.map RV.d)) := by
      rw [← List.append_assoc, ← List.append_assoc]
      exact paired_app q3 (paired_D (hS F3))
    have l1 : vs.length = m := by rw [Paired.length q1, hl.1]
    have l2 : ws.length = ks.length := by rw [Paired.length q2, hl.2]
    refine ⟨l1, l2, by rw [Paired.length q4, List.length_append, List.length_append, List.length_map, List.length_map, List.length_map, hl.1, hl.2, hn], F3, _, g3.cfg, st.rg.tb.grow g3, q4, ?_⟩
    cases e1 : G (rs.map RV.arg ++ (zs.map RV.arg ++ dds.map RV.d)) with
    | ok r => rw [e1] at p2; exact fun G' H' v gg rr => p2 G' H' v (g3.trans gg) (rr.older g3.hh)
    | ex c fs => rw [e1] at p2; exact fun G' H' cls dx gg x => p2 G' H' cls dx (g3.trans gg) x
    | no => rw [e1] at p2; exact p2
  · exact p2.elim
@[simp] theorem e_cAK (h) (f g : VEnv → Rs (List RV)) (env : VEnv) : cAK h f g env = (f env).bind fun rs => (g env).bind fun zs => h rs zs := rfl
end
end VL

namespace VL
open PySem PySem.Spec PyProof.Rows L2

/-! ## dicts whose keys are tuples of ints: the machine's side -/
abbrev tk (P : Program) (w : World) : HeapKind P w (List Int) := tupleKind (intKind P w)
section
variable {X : Cx} {pins : List (Addr × Obj)} {σ : L2.St} {H : Hp} {s : Shared} {a b p d : Addr} {ks : List Int} {xs : List (List Int × Addr × Value)} {n : Nat} {A : Around} {E : Value → Shared → Prop}
theorem items_ints {P : Program} {w : World} : ∀ {ks : List Int} {us : List Value}, Vals (ks.map V.int) us → ItemsAre (intKind P w) ks us
  | [], _, r => by rw [List.map_nil] at r; cases r; exact .nil
  | k :: ks, _, r => by
    rw [List.map_cons] at r
    cases r with
    | cons h t => obtain ⟨t1, rfl⟩ := h; exact .cons (by show Value.isInt k (.int k t1) = true; simp [Value.isInt]) (items_ints t)
theorem key_is (I : Inv X pins σ H s) (h : SqT X.K H b (ks.map V.int)) : (tk X.prog X.w).is s.heap ks b := by
  obtain ⟨its, r, ⟨o, ho, hc, n, hd⟩, _⟩ := I.tuple h
  exact ⟨o, its.toArray, n, ho, hc, hd, by simpa using items_ints r⟩
/-- all keys stand -/
def KeysIn (K : PySem.W.Frag) (H : Hp) (xs : List (List Int × Addr × Value)) : Prop := ∀ x ∈ xs, SqT K H x.2.1 (x.1.map V.int)
theorem dto_ok (I : Inv X pins σ H s) (e : H p = some (DTO p (n, xs))) (k : KeysIn X.K H xs) : s.heap.DictOfH (tk X.prog X.w) p xs ∧ xs.length ≤ sizeLine ∧ (p == sysModules) = false := by
  obtain ⟨⟨o, es, h1, h2, h3, h4, h5, h6, h7⟩, _⟩ := (show ObjOk X.prog X.w H s.heap p (.ext (DTOk p (n, xs))) from I.hok p _ e)
  exact ⟨⟨o, es, n, h1, h2, h3, h4, fun x hx => key_is I (k x hx), h5⟩, h6, h7⟩
theorem dto_new {P : Program} {w : World} {h : Heap} (dd : h.DictOfH (tk P w) p xs) (z : xs.length ≤ sizeLine) (hd : (p == sysModules) = false) : ∃ n, ∀ H, ObjOk P w H h p (DTO p (n, xs)) := by
  obtain ⟨o, es, ep, h1, h2, h3, h4, _, h5⟩ := dd
  refine ⟨ep, fun H => ⟨⟨o, es, h1, h2, h3, h4, h5, z, hd⟩, ⟨o, h1⟩, fun k1 k2 q k => ?_⟩⟩
  obtain ⟨o, es, h1, r⟩ := q
  exact ⟨o, es, k _ h1, r⟩
theorem storedH_len (xs : List (List Int × Addr × Value)) (k : List Int) (a : Addr) (v : Value) : (storedH xs k a v).length ≤ xs.length + 1 := by
  unfold storedH
  split <;> simp
/-- d[k] -/
abbrev rIxDT (K : PySem.W.Frag) : R2 := fun x y H Q => ∃ p b n xs ks q v, x = .ref p ∧ y = .ref b ∧ H p = some (DTO p (n, xs)) ∧ KeysIn K H xs ∧ SqT K H b (ks.map V.int) ∧ atKey xs ks = some q ∧ RelV v q.2 ∧ Q v H
theorem ix_dt (hu : X.A.units + 1 < cLine) : IxR X (rIxDT X.K) := by
  intro value slice pins s σ H x y v u Q I rx ry h hs
  obtain ⟨p, b, n, xs, ks, q, z, rfl, rfl, e, kk, hk, hq, rz, fin⟩ := h
  cases rx; cases ry
  obtain ⟨dd, z1, z2⟩ := dto_ok I e kk
  unfold subscriptTail
  refine wpAny_bind ?_
  rw [getitemInPython_of_ne dd.typeIs.not_modules]
  refine wpAny_bind (wpAny_specialOf dd.typeIs PySem.F.slot_dict_getitem.lookup ?_)
  have fin : wpAny (model X.prog X.w) X.A (subscripted slice false (.ref p) (.ref b)) (fun r s₃ => wpAny (model X.prog X.w) X.A (letTemporaryGo value (.ref p) r >>= fun _ => pure r) (EP X pins σ Q) X.xe s₃) X.xe s := by
    rw [hs]
    exact wpAny_operating (wpAny_getItem_heap (tupleKind_room_in1 hu) (key_is I hk) dd hq (wpAny_bind (wpAny_letTemporaryGo (wpAny_pure ⟨z, H, I.tok _, rz, fin⟩))))
  first
    | exact wpAny_pure (wpAny_bind fin)
    | exact wpAny_bind (wpAny_pure (wpAny_bind fin))
    | exact wpAny_bind fin
/-- d[k], keys ints and texts -/
abbrev rIxDK : R2 := fun x y H Q => ∃ a v, x = .ref a ∧ DGet H a y (some v) ∧ Q v H
theorem ix_dk (hu : X.A.units + 1 < cLine) : IxR X rIxDK := by
  intro value slice pins s σ H x y v u Q I rx ry h hs
  obtain ⟨p, z, rfl, g, fin⟩ := h
  cases rx
  have dd := dict_typeIs I g
  unfold subscriptTail
  refine wpAny_bind ?_
  rw [getitemInPython_of_ne dd.not_modules]
  refine wpAny_bind (wpAny_specialOf dd PySem.F.slot_dict_getitem.lookup ?_)
  have fin : wpAny (model X.prog X.w) X.A (subscripted slice false (.ref p) u) (fun r s₃ => wpAny (model X.prog X.w) X.A (letTemporaryGo value (.ref p) r >>= fun _ => pure r) (EP X pins σ Q) X.xe s₃) X.xe s := by
    rw [hs]
    exact wpAny_operating (d_getItem hu I g ry fun w' s3 I3 rw' => wpAny_bind (wpAny_letTemporaryGo (wpAny_pure ⟨z, H, I3, rw', fin⟩)))
  first
    | exact wpAny_pure (wpAny_bind fin)
    | exact wpAny_bind (wpAny_pure (wpAny_bind fin))
    | exact wpAny_bind fin
/-- k in d -/
abbrev rInDT (K : PySem.W.Frag) : R2 := fun x y H Q => ∃ p b n xs ks, x = .ref b ∧ y = .ref p ∧ H p = some (DTO p (n, xs)) ∧ KeysIn K H xs ∧ SqT K H b (ks.map V.int) ∧ Q (.bl (atKey xs ks).isSome) H
abbrev rNotInDT (K : PySem.W.Frag) : R2 := fun x y H Q => ∃ p b n xs ks, x = .ref b ∧ y = .ref p ∧ H p = some (DTO p (n, xs)) ∧ KeysIn K H xs ∧ SqT K H b (ks.map V.int) ∧ Q (.bl (!(atKey xs ks).isSome)) H
abbrev rInDK : R2 := fun y x H Q => ∃ a o, x = .ref a ∧ DGet H a y o ∧ Q (.bl o.isSome) H
abbrev rNotInDK : R2 := fun y x H Q => ∃ a o, x = .ref a ∧ DGet H a y o ∧ Q (.bl (!o.isSome)) H
theorem op_inDT (hu : X.A.units + 1 < cLine) : OpR X (compareOp .In) (rInDT X.K) := by
  intro pins s σ H x y v u Q I rx ry h
  obtain ⟨p, b, n, xs, ks, rfl, rfl, e, kk, hk, fin⟩ := h
  cases rx; cases ry
  obtain ⟨dd, z1, z2⟩ := dto_ok I e kk
  exact wpAny_in_heap (tupleKind_room_in1 hu) (key_is I hk) z2 dd ⟨.bl _, H, I.tok _, rfl, fin⟩
theorem op_notInDT (hu : X.A.units + 1 < cLine) : OpR X (compareOp .NotIn) (rNotInDT X.K) := by
  intro pins s σ H x y v u Q I rx ry h
  obtain ⟨p, b, n, xs, ks, rfl, rfl, e, kk, hk, fin⟩ := h
  cases rx; cases ry
  obtain ⟨dd, z1, z2⟩ := dto_ok I e kk
  exact wpAny_notIn_heap (tupleKind_room_in1 hu) (key_is I hk) z2 dd ⟨.bl _, H, I.tok _, rfl, fin⟩
theorem op_inDK (hu : X.A.units + 1 < cLine) : OpR X (compareOp .In) rInDK := by
  intro pins s σ H x y v u Q I rx ry h
  obtain ⟨a, o, rfl, g, fin⟩ := h
  cases ry
  exact d_in hu I g rx fun s' I' => ⟨.bl _, H, I', rfl, fin⟩
theorem op_notInDK (hu : X.A.units + 1 < cLine) : OpR X (compareOp .NotIn) rNotInDK := by
  intro pins s σ H x y v u Q I rx ry h
  obtain ⟨a, o, rfl, g, fin⟩ := h
  cases ry
  exact d_notIn hu I g rx fun s' I' => ⟨.bl _, H, I', rfl, fin⟩
/-- d[k] = v -/
def rSetDT (K : PySem.W.Frag) : V → V → V → Hp → (Hp → Prop) → Prop := fun o i v H Q => ∃ p b n xs ks, o = .ref p ∧ i = .ref b ∧ H p = some (DTO p (n, xs)) ∧ KeysIn K H xs ∧ SqT K H b (ks.map V.int) ∧ xs.length < sizeLine ∧ ∀ u n', RelV v u → Q (upd H p (DTO p (n', storedH xs ks b u)))
theorem set_dt (hu : X.A.units + 1 < cLine) : PSet X (rSetDT X.K) := by
  intro pins s σ H o i v ov iv u Q I ro ri rv h
  obtain ⟨p, b, n, xs, ks, rfl, rfl, e, kk, hk, hl, fin⟩ := h
  cases ro; cases ri
  obtain ⟨dd, z1, z2⟩ := dto_ok I e kk
  refine wpAny_setItem_heap (hsz := z1) (tupleKind_room_in1 hu) (key_is I hk) dd fun h' dd' hs => ?_
  have he : ∃ q, h'.get? p = some q := let ⟨q, _, _, hq, _⟩ := dd'; ⟨q, hq⟩
  obtain ⟨n', mk⟩ := dto_new dd' (Nat.le_trans (storedH_len xs ks b u) hl) z2
  exact ⟨_, d_write I (by rw [e]; exact True.intro) hs he (mk _), fin u n' rv⟩
def rSetDK : V → V → V → Hp → (Hp → Prop) → Prop := fun o i v H Q => ∃ p kvs k, o = .ref p ∧ i = kV k ∧ H p = some (.dK kvs) ∧ kvs.length < sizeLine ∧ Q (upd H p (.dK (putK kvs k v)))
theorem set_dk (hu : X.A.units + 1 < cLine) : PSet X rSetDK := by
  intro pins s σ H o i v ov iv u Q I ro ri rv h
  obtain ⟨p, kvs, k, rfl, rfl, e, hl, fin⟩ := h
  cases ro
  exact d_setItem hu I (DPut.k e hl) ri rv fun s' I' => ⟨_, I', fin⟩
def rOrS (r r' : V → V → V → Hp → (Hp → Prop) → Prop) : V → V → V → Hp → (Hp → Prop) → Prop := fun o i v H Q => r o i v H Q ∨ r' o i v H Q
theorem set_or {r r' : V → V → V → Hp → (Hp → Prop) → Prop} (h : PSet X r) (h' : PSet X r') : PSet X (rOrS r r') := by
  intro pins s σ H o i v ov iv u Q I ro ri rv q
  rcases q with q | q
  · exact h pins s σ H o i v ov iv u Q I ro ri rv q
  · exact h' pins s σ H o i v ov iv u Q I ro ri rv q
/-- d.get(k), d.get(k, x) -/
theorem dto_isD (I : Inv X pins σ H s) (e : H a = some (DTO a (n, xs))) (k : KeysIn X.K H xs) :
    s.TypeIs (.ref a) "dict" ∧ (∀ b, Value.ref a = .ref b → ∃ ob, s.heap.get? b = some ob ∧ ob.dict = none) ∧ (a == sysModules) = false := by
  obtain ⟨dd, z1, z2⟩ := dto_ok I e k
  refine ⟨dd.typeIs, fun b q => ?_, z2⟩
  cases q
  obtain ⟨ob, _, _, h1, h2, _⟩ := dd
  exact ⟨ob, h1, h2.2.1⟩
def tGet1 (td ty : TE) (K : PySem.W.Frag) : TE := fun σ H Q => td σ H fun x H1 => ∃ a, x = .ref a ∧ ((IsD H1 a ∧ ty σ H1 fun y H2 => ∃ o, DGet H2 a y o ∧ Q (o.getD .non) H2) ∨
  ∃ n xs, H1 a = some (DTO a (n, xs)) ∧ KeysIn K H1 xs ∧ ty σ H1 fun y H2 => ∃ b ks z, y = .ref b ∧ H2 a = some (DTO a (n, xs)) ∧ KeysIn K H2 xs ∧ SqT K H2 b (ks.map V.int) ∧ RelV z (((atKey xs ks).map (·.2)).getD .none) ∧ Q z H2)
def tGet2 (td ty tx : TE) (K : PySem.W.Frag) : TE := fun σ H Q => td σ H fun x H1 => ∃ a, x = .ref a ∧ ((IsD H1 a ∧ ty σ H1 fun y H2 => tx σ H2 fun z H3 => ∃ o, DGet H3 a y o ∧ Q (o.getD z) H3) ∨
  ∃ n xs, H1 a = some (DTO a (n, xs)) ∧ KeysIn K H1 xs ∧ ty σ H1 fun y H2 => tx σ H2 fun d H3 => ∃ b ks z, y = .ref b ∧ H3 a = some (DTO a (n, xs)) ∧ KeysIn K H3 xs ∧ SqT K H3 b (ks.map V.int) ∧ (∀ u, RelV d u → RelV z (((atKey xs ks).map (·.2)).getD u)) ∧ Q z H3)
end
section
variable {X : Cx} {o e f : Expr} {apos cpos : Pos} {td ty tx : TE}
theorem pe_get1 (hu : X.A.units + 1 < cLine) (ho : PE X o td) (he : PE X e ty) (m : M1 X o "get" apos e cpos) : PE X (.Call (.Attribute o "get" apos) [e] [] cpos) (tGet1 td ty X.K) := by
  refine ⟨fun pins s σ H Q I h => ?_⟩
  refine wpAny_Call_method m.base m.few m.line PySem.F.plainAttrs_dict PySem.F.slot_dict_get PySem.F.type_dict_get (thn (ho.run pins s σ H _ I h) fun u s1 ⟨x, H1, I1, rx, a, ex, q1⟩ => ?_)
  subst ex
  obtain rfl : u = Value.ref a := rx
  rw [m.trees]
  rcases q1 with ⟨d, q1⟩ | ⟨n, xs, e1, k1, q1⟩
  · obtain ⟨t1, t2, _⟩ := isD_at I1 d
    refine ⟨t1, t2, ?_⟩
    refine Calls.callWith_builtin rfl (Calls.evalArgs_plain (Calls.spliced_cons (thn (he.run pins s1 σ H1 _ I1 q1) fun iv s2 ⟨y, H2, I2, ry, ov, g, q2⟩ => Calls.spliced_nil ?_)))
    exact d_get1 hu I2 g ry fun w' s3 I3 rw' => ⟨_, H2, I3, rw', q2⟩
  · obtain ⟨t1, t2, _⟩ := dto_isD I1 e1 k1
    refine ⟨t1, t2, ?_⟩
    refine Calls.callWith_builtin rfl (Calls.evalArgs_plain (Calls.spliced_cons (thn (he.run pins s1 σ H1 _ I1 q1) fun iv s2 ⟨y, H2, I2, ry, b, ks, z, ey, e2, k2, hk, rz, q2⟩ => Calls.spliced_nil ?_)))
    subst ey
    cases (show iv = Value.ref b from ry)
    obtain ⟨dd, z1, z2⟩ := dto_ok I2 e2 k2
    exact call_meetsIn PySem.F.slot_dict_get dd.typeIs PySem.F.entry_dict_get (PySem.F.args_dict_get_2 _ _) (meetsH_dict_get (tk X.prog X.w) a b z2) ⟨tupleKind_room_in1 hu, ks, xs, key_is I2 hk, dd, ⟨z, H2, I2.tok _, rz, q2⟩⟩
theorem pe_get2 (hu : X.A.units + 1 < cLine) (ho : PE X o td) (he : PE X e ty) (hf : PE X f tx) (m : M2 X o "get" apos e f cpos) : PE X (.Call (.Attribute o "get" apos) [e, f] [] cpos) (tGet2 td ty tx X.K) := by
  refine ⟨fun pins s σ H Q I h => ?_⟩
  refine wpAny_Call_method m.base m.few m.line PySem.F.plainAttrs_dict PySem.F.slot_dict_get PySem.F.type_dict_get (thn (ho.run pins s σ H _ I h) fun u s1 ⟨x, H1, I1, rx, a, ex, q1⟩ => ?_)
  subst ex
  obtain rfl : u = Value.ref a := rx
  rw [m.trees]
  rcases q1 with ⟨d, q1⟩ | ⟨n, xs, e1, k1, q1⟩
  · obtain ⟨t1, t2, _⟩ := isD_at I1 d
    refine ⟨t1, t2, ?_⟩
    refine Calls.callWith_builtin rfl (Calls.evalArgs_plain (Calls.spliced_cons (thn (he.run pins s1 σ H1 _ I1 q1) fun iv s2 ⟨y, H2, I2, ry, q2⟩ =>
      Calls.spliced_cons (thn (hf.run pins s2 σ H2 _ I2 q2) fun fv s3 ⟨z, H3, I3, rz, ov, g, q3⟩ => Calls.spliced_nil ?_))))
    exact d_get2 hu I3 g ry rz fun w' s4 I4 rw' => ⟨_, H3, I4, rw', q3⟩
  · obtain ⟨t1, t2, _⟩ := dto_isD I1 e1 k1
    refine ⟨t1, t2, ?_⟩
    refine Calls.callWith_builtin rfl (Calls.evalArgs_plain (Calls.spliced_cons (thn (he.run pins s1 σ H1 _ I1 q1) fun iv s2 ⟨y, H2, I2, ry, q2⟩ =>
      Calls.spliced_cons (thn (hf.run pins s2 σ H2 _ I2 q2) fun fv s3 ⟨d, H3, I3, rd, b, ks, z, ey, e3, k3, hk, rz, q3⟩ => Calls.spliced_nil ?_))))
    subst ey
    cases (show iv = Value.ref b from ry)
    obtain ⟨dd, z1, z2⟩ := dto_ok I3 e3 k3
    exact call_meetsIn PySem.F.slot_dict_get dd.typeIs PySem.F.entry_dict_get (PySem.F.args_dict_get_3 _ _ _) (meetsH_dict_get_default (tk X.prog X.w) a b z2 fv) ⟨tupleKind_room_in1 hu, ks, xs, key_is I3 hk, dd, ⟨z, H3, I3.tok _, rz fv rd, q3⟩⟩
end
/-! displays -/
section
variable {X : Cx} {pos : Pos}
theorem dto_empty {P : Program} {w : World} {H : Hp} (h : Heap) (hb : sysModules < h.objs.size) : ObjOk P w H (h.push { cls := .type "dict", data := .dict #[] }) h.objs.size (DTO h.objs.size (0, [])) :=
  ⟨⟨_, #[], Heap.get?_push_size _ rfl, ⟨rfl, rfl, rfl⟩, rfl, rfl, List.nodup_nil, Nat.zero_le _, beq_eq_false_iff_ne.mpr (Ne.symm (Nat.ne_of_lt hb))⟩, ⟨_, Heap.get?_push_size _ rfl⟩, fun k1 k2 ⟨o, es, h1, r⟩ k => ⟨o, es, k _ h1, r⟩⟩
def tDNewO : TE := fun _ H Q => ∀ p, H p = none → Q (.ref p) (upd H p (DTO p (0, [])))
theorem pe_dnewO : PE X (.Dict [] [] pos) tDNewO := ⟨fun pins s σ H Q I h =>
  wpAny_Dict_empty ⟨.ref s.heap.objs.size, _, I.laid (a := s.heap.objs.size) (o := DTO s.heap.objs.size (0, [])) (t' := s.toks) (fun _ _ q => Heap.get?_push_of_some _ q) (Nat.le_refl _) (dto_empty s.heap I.big), rfl, h _ (I.hok.fresh (Nat.le_refl _))⟩⟩
/-- {k: v}, k a tuple of ints -/
def tDisp1 (K : PySem.W.Frag) (t1 t2 : TE) : TE := fun σ H Q => ∀ p, H p = none → t1 σ (upd H p (DTO p (0, []))) fun x H1 => t2 σ H1 fun y H2 => H2 p = some (DTO p (0, [])) ∧ ∃ b ks, x = .ref b ∧ SqT K H2 b (ks.map V.int) ∧ ∀ u n, RelV y u → Q (.ref p) (upd H2 p (DTO p (n, [(ks, b, u)])))
theorem pe_disp1 {k v : Expr} {t1 t2 : TE} (hu : X.A.units + 1 < cLine) (hk : PE X k t1) (hv : PE X v t2) : PE X (.Dict [some k] [v] pos) (tDisp1 X.K t1 t2) := by
  refine ⟨fun pins s σ H Q I q => ?_⟩
  have hn := I.hok.fresh (Nat.le_refl s.heap.objs.size)
  have I1 := I.laid (a := s.heap.objs.size) (o := DTO s.heap.objs.size (0, [])) (h' := s.heap.push { cls := .type "dict", data := .dict #[] }) (t' := s.toks) (fun _ _ q => Heap.get?_push_of_some _ q) (Nat.le_refl _) (dto_empty s.heap I.big)
  rw [arm_eval_Dict, zip_pairTrees [some k] [v] X.env pos rfl rfl, dictDisplay_pairs (pairTrees [some k] [v] X.env pos) (by simp [pairTrees]) (by simp [pairTrees])]
  refine wpAny_bind (wpAny_standAt (wpAny_bind (wpAny_subDictH (knd := tk X.prog X.w) (Q := fun d s' => wpAny (model X.prog X.w) X.A (pure (Value.ref d)) (EP X pins σ Q) X.xe s') (show X.A.units < cLine by omega) (by simp [pairTrees]) ?_)))
  refine pairTrees_cons_walk (thn (hk.run pins _ σ _ _ I1 (q _ hn)) fun kv s1 ⟨x, H1, I1, rx, q1⟩ => thn (hv.run pins s1 σ H1 _ I1 q1) fun vv s2 ⟨y, H2, I2, ry, e, b, ks, ex, hb, q2⟩ => pairTrees_nil_walk ?_)
  subst ex
  cases (show kv = Value.ref b from rx)
  obtain ⟨dd, z1, z2⟩ := dto_ok I2 e (fun x hx => absurd hx (by simp))
  refine ⟨[(ks, b, vv)], ⟨rfl, rfl, key_is I2 hb, True.intro⟩, dd, fun h' tk' dd' hs => ?_⟩
  have he : ∃ q, h'.get? s.heap.objs.size = some q := let ⟨q, _, _, hq, _⟩ := dd'; ⟨q, hq⟩
  obtain ⟨n', mk⟩ := dto_new dd' (by rw [sizeLine_eq]; show 1 ≤ 16777216; decide) z2
  exact wpAny_pure ⟨.ref _, _, d_write I2 (by rw [e]; exact True.intro) hs he (mk _), rfl, q2 vv n' ry⟩
end
end VL

namespace VL
open PySem PySem.Spec PyProof.Rows L2

/-! ## dicts as values -/
section
variable {κ : Type} [DecidableEq κ]
def dGet (kvs : List (κ × PyData)) (k : κ) : Option PyData := (kvs.find? fun p => decide (p.1 = k)).map (·.2)
def dPut (kvs : List (κ × PyData)) (k : κ) (d : PyData) : List (κ × PyData) :=
  if (kvs.any fun p => decide (p.1 = k)) = true then kvs.map (fun p => if p.1 = k then (p.1, d) else p) else kvs ++ [(k, d)]
def dDrop (kvs : List (κ × PyData)) (k : κ) : List (κ × PyData) := kvs.filter fun p => decide (p.1 ≠ k)
@[simp] theorem dGet_nil (k : κ) : dGet [] k = none := rfl
theorem dGet_cons (p : κ × PyData) (kvs : List (κ × PyData)) (k : κ) : dGet (p :: kvs) k = if p.1 = k then some p.2 else dGet kvs k := by
  unfold dGet
  by_cases h : p.1 = k <;> simp [List.find?_cons, h]
theorem dGet_any (kvs : List (κ × PyData)) (k : κ) : (kvs.any fun p => decide (p.1 = k)) = (dGet kvs k).isSome := by
  induction kvs with
  | nil => rfl
  | cons p kvs ih =>
    rw [List.any_cons, dGet_cons, ih]
    by_cases h : p.1 = k <;> simp [h]
theorem dGet_put (kvs : List (κ × PyData)) (k j : κ) (d : PyData) : dGet (dPut kvs k d) j = if j = k then some d else dGet kvs j := by
  unfold dPut
  by_cases a : (kvs.any fun p => decide (p.1 = k)) = true
  · rw [if_pos a]
    induction kvs with
    | nil => simp at a
    | cons p kvs ih =>
      rw [List.map_cons, dGet_cons, dGet_cons]
      by_cases h : p.1 = k
      · simp only [h, if_true]
        by_cases hj : k = j
        · simp [hj]
        · rw [if_neg hj, if_neg hj, if_neg (fun z => hj z.symm)]
          by_cases b : (kvs.any fun p => decide (p.1 = k)) = true
          · rw [ih b, if_neg (fun z => hj z.symm)]
          · congr 1
            have : kvs.map (fun p => if p.1 = k then (p.1, d) else p) = kvs.map id := by
              apply List.map_congr_left
              intro q hq
              have : ¬ q.1 = k := fun z => b (List.any_eq_true.mpr ⟨q, hq, by simp [z]⟩)
              simp [this]
            have h2 := this
            simp only [List.map_id] at h2
            exact h2
      · have b : (kvs.any fun p => decide (p.1 = k)) = true := by
          rw [List.any_cons] at a; simpa [h] using a
        simp only [h, if_false]
        rw [ih b]
        by_cases hj : p.1 = j
        · have : ¬ j = k := fun z => h (hj.trans z)
          simp [hj, this]
        · simp [hj]
  · rw [if_neg a]
    have n : dGet kvs k = none := by
      rw [dGet_any] at a
      cases e : dGet kvs k with
      | none => rfl
      | some x => rw [e] at a; simp at a
    clear a
    induction kvs with
    | nil => rw [List.nil_append, dGet_cons]; by_cases h : k = j <;> simp [h, eq_comm]
    | cons p kvs ih =>
      rw [List.cons_append, dGet_cons, dGet_cons]
      rw [dGet_cons] at n
      by_cases h : p.1 = k
      · simp [h] at n
      · rw [if_neg h] at n
        rw [ih n]
        by_cases hj : p.1 = j
        · have : ¬ j = k := fun z => h (hj.trans z)
          simp [hj, this]
        · simp [hj]
theorem dPut_new {kvs : List (κ × PyData)} {k : κ} (d : PyData) (h : dGet kvs k = none) : dPut kvs k d = kvs ++ [(k, d)] := by
  unfold dPut
  rw [dGet_any, h]
  rfl
theorem dPut_keys_old {kvs : List (κ × PyData)} {k : κ} (d : PyData) (h : (dGet kvs k).isSome = true) : (dPut kvs k d).map (·.1) = kvs.map (·.1) := by
  unfold dPut
  rw [dGet_any, if_pos h, List.map_map]
  apply List.map_congr_left
  intro p _
  by_cases e : p.1 = k <;> simp [e]
theorem dGet_drop (kvs : List (κ × PyData)) (k j : κ) : dGet (dDrop kvs k) j = if j = k then none else dGet kvs j := by
  unfold dDrop
  induction kvs with
  | nil => simp
  | cons p kvs ih =>
    rw [List.filter_cons, dGet_cons]
    by_cases h : p.1 = k
    · simp only [h, ne_eq, not_true, decide_false, Bool.false_eq_true, if_false]
      rw [ih]
      by_cases hj : k = j
      · simp [hj]
      · have : ¬ j = k := fun z => hj z.symm
        simp [hj, this]
    · simp only [h, ne_eq, not_false_eq_true, decide_true, if_true]
      rw [dGet_cons, ih]
      by_cases hj : p.1 = j
      · have : ¬ j = k := fun z => h (hj.trans z)
        simp [hj, this]
      · simp [hj]
end
def keyD : PyData → Option Key
  | .int i => some (.inl i)
  | .str x => some (.inr x)
  | _ => none
def keyTD : PyData → Option (List Int)
  | .tuple xs => intsD xs
  | _ => none
section
variable {K : PySem.W.Frag} {ca : CA} {H0 F H : Hp} {v : V} {r : RV}
theorem keyD_ok {x : PyData} {k : Key} (h : Dq K F v x) (e : keyD x = some k) : v = kV k := by
  cases x with
  | int i => cases h; cases e; rfl
  | str i => cases h; cases e; rfl
  | _ => cases e
theorem keyTD_ok {x : PyData} {k : List Int} (h : Dq K F v x) (e : keyTD x = some k) : ∃ b, v = .ref b ∧ SqN K F b (k.map V.int) := by
  cases x with
  | tuple xs =>
    cases h with
    | tup h1 h2 =>
      have := ints_ok h2 e
      subst this
      exact ⟨_, rfl, h1⟩
  | _ => cases e
theorem KTl.keys {xs : List (List Int × Addr × Value)} {kvs : List (List Int × PyData)} (h : KTl K F xs kvs) (s : Same F H) : KeysIn K H xs := by
  induction h with
  | nil => intro x hx; simp at hx
  | cons h1 _ ih =>
    intro x hx
    rcases List.mem_cons.mp hx with rfl | hx
    · exact same_seqT s h1.2.1.1
    · exact ih x hx
theorem KTl.len {xs : List (List Int × Addr × Value)} {kvs : List (List Int × PyData)} (h : KTl K F xs kvs) : xs.length = kvs.length := Paired.length h
theorem atKey_cons (p : List Int × Addr × Value) (xs : List (List Int × Addr × Value)) (k : List Int) : atKey (p :: xs) k = if p.1 = k then some p.2 else atKey xs k := by
  unfold atKey
  by_cases h : p.1 = k <;> simp [List.find?_cons, h]
/-- what stands at a key, on both sides -/
theorem KTl.at {xs : List (List Int × Addr × Value)} {kvs : List (List Int × PyData)} (h : KTl K F xs kvs) (k : List Int) : (atKey xs k = none ∧ dGet kvs k = none) ∨ ∃ q d v, atKey xs k = some q ∧ dGet kvs k = some d ∧ RelV v q.2 ∧ Dq K F v d := by
  induction h with
  | nil => exact .inl ⟨rfl, rfl⟩
  | @cons p q ps qs h1 h2 ih =>
    rw [atKey_cons, dGet_cons, ← h1.1]
    by_cases e : p.1 = k
    · rw [if_pos e, if_pos e]
      obtain ⟨v, r1, r2⟩ := h1.2.2
      exact .inr ⟨_, _, v, rfl, rfl, r1, r2⟩
    · rw [if_neg e, if_neg e]; exact ih
theorem KTl.repl {xs : List (List Int × Addr × Value)} {kvs : List (List Int × PyData)} (h : KTl K F xs kvs) (k : List Int) {u : Value} {w : V} {d : PyData} (r : RelV w u) (dq : Dq K F w d) : KTl K F (xs.map (putAt k u)) (kvs.map fun p => if p.1 = k then (p.1, d) else p) := by
  induction h with
  | nil => exact .nil
  | @cons p q ps qs h1 h2 ih =>
    rw [List.map_cons, List.map_cons]
    refine .cons ?_ ih
    unfold putAt
    by_cases e : p.1 = k
    · rw [if_pos e, if_pos (h1.1.symm.trans e)]; exact ⟨h1.1, h1.2.1, w, r, dq⟩
    · rw [if_neg e, if_neg (fun z => e (h1.1.trans z))]; exact h1
theorem KTl.put {xs : List (List Int × Addr × Value)} {kvs : List (List Int × PyData)} (h : KTl K F xs kvs) (k : List Int) {b : Addr} {u : Value} {w : V} {d : PyData} (hb : SqN K F b (k.map V.int)) (r : RelV w u) (q : Dq K F w d) : KTl K F (storedH xs k b u) (dPut kvs k d) := by
  have e : (kvs.any fun p => decide (p.1 = k)) = (atKey xs k).isSome := by
    rw [dGet_any]
    rcases h.at k with ⟨a, b⟩ | ⟨q, d, v, a, b, _⟩ <;> rw [a, b] <;> rfl
  unfold storedH dPut
  rw [e]
  by_cases c : (atKey xs k).isSome = true
  · rw [if_pos c, if_pos c]; exact h.repl k r q
  · rw [if_neg c, if_neg c]; exact Paired.snoc h ⟨rfl, hb, w, r, q⟩
/-- keys ints and texts -/
theorem KD.at {xs : List (Key × V)} {kvs : List (Key × PyData)} (h : KD K F xs kvs) (k : Key) : (valV xs k = none ∧ dGet kvs k = none) ∨ ∃ v d, valV xs k = some v ∧ dGet kvs k = some d ∧ Dq K F v d := by
  induction h with
  | nil => exact .inl ⟨rfl, rfl⟩
  | @cons p q ps qs h1 h2 ih =>
    rw [dGet_cons, ← h1.1]
    by_cases e : p.1 = k
    · rw [if_pos e, valV_pos e]; exact .inr ⟨_, _, rfl, rfl, h1.2⟩
    · rw [if_neg e, valV_neg e]; exact ih
theorem KD.put {xs : List (Key × V)} {kvs : List (Key × PyData)} (h : KD K F xs kvs) (k : Key) {w : V} {d : PyData} (q : Dq K F w d) : KD K F (putK xs k w) (dPut kvs k d) := by
  have e : (kvs.any fun p => decide (p.1 = k)) = (xs.any fun p => decide (p.1 = k)) := by
    rw [dGet_any, valV_any]
    rcases h.at k with ⟨a, b⟩ | ⟨q, d, a, b, _⟩ <;> rw [a, b] <;> rfl
  unfold putK dPut
  rw [e]
  by_cases c : (xs.any fun p => decide (p.1 = k)) = true
  · rw [if_pos c, if_pos c]
    clear e c
    induction h with
    | nil => exact .nil
    | @cons p r ps qs h1 h2 ih =>
      rw [List.map_cons, List.map_cons]
      refine .cons ?_ ih
      by_cases e : p.1 = k
      · rw [if_pos e, if_pos (h1.1.symm.trans e)]; exact ⟨h1.1, q⟩
      · rw [if_neg e, if_neg (fun z => e (h1.1.trans z))]; exact h1
  · rw [if_neg c, if_neg c]; exact Paired.snoc h ⟨rfl, q⟩
theorem KD.drop {xs : List (Key × V)} {kvs : List (Key × PyData)} (h : KD K F xs kvs) (k : Key) : KD K F (dropK xs k) (dDrop kvs k) := by
  unfold dropK dDrop
  induction h with
  | nil => exact .nil
  | @cons p r ps qs h1 h2 ih =>
    rw [List.filter_cons, List.filter_cons, ← h1.1]
    by_cases e : p.1 = k
    · simp only [e, ne_eq, not_true, decide_false, Bool.false_eq_true, if_false]; exact ih
    · simp only [e, ne_eq, not_false_eq_true, decide_true, if_true]; exact .cons h1 ih
/-! ### d[k], k in d -/
def RV.dk : RV → Option (List (Key × PyData))
  | .od kvs => some kvs
  | .bd kvs => some kvs
  | _ => none
def RV.dt : RV → Option (List (List Int × PyData))
  | .ot kvs => some kvs
  | .bt kvs => some kvs
  | _ => none
theorem dk_ok {kvs : List (Key × PyData)} (h : RVok K H0 F H v r) (e : r.dk = some kvs) : ∃ p xs, v = .ref p ∧ Rd H p (.dK xs) ∧ KD K F xs kvs := by
  cases r with
  | od ys => cases e; obtain ⟨p, vs, e1, _, _, hp, q⟩ := h; exact ⟨p, vs, e1, .inl hp, q⟩
  | bd ys => cases e; obtain ⟨p, vs, e1, hp, q⟩ := h; exact ⟨p, vs, e1, hp, q⟩
  | _ => cases e
theorem dgetR {H : Hp} {a : Addr} {kvs : List (Key × V)} {k : Key} (e : Rd H a (.dK kvs)) : DGet H a (kV k) (valV kvs k) := .inl ⟨kvs, k, e, rfl, rfl⟩
theorem rd_same {H H' : Hp} {a : Addr} {u : HO} [NT u] (s : SameN H H') (h : Rd H a u) : Rd H' a u := h.imp (fun z => s _ _ z) fun ⟨o, z⟩ => ⟨o, s _ _ z⟩
theorem dt_ok {kvs : List (List Int × PyData)} (h : RVok K H0 F H v r) (e : r.dt = some kvs) : ∃ p n xs, v = .ref p ∧ H p = some (DTO p (n, xs)) ∧ KTl K F xs kvs := by
  cases r with
  | ot ys => cases e; obtain ⟨p, ⟨n, vs⟩, e1, _, _, hp, q⟩ := h; exact ⟨p, n, vs, e1, hp, q⟩
  | bt ys => cases e; obtain ⟨p, ⟨n, vs⟩, e1, hp, q⟩ := h; exact ⟨p, n, vs, e1, hp, q⟩
  | _ => cases e
def RV.sd : RV → Option PyData
  | .d x => some x
  | _ => none
theorem sd_ok {x : PyData} (h : RVok K H0 F H v r) (e : r.sd = some x) : Dq K F v x := by
  cases r with
  | d y => cases e; exact h
  | _ => cases e
def gGetDK (kvs : List (Key × PyData)) (b : RV) : Rs (Option PyData) := (rsO (b.sd.bind keyD)).bind fun k => .ok (dGet kvs k)
def gGetDT (kvs : List (List Int × PyData)) (b : RV) : Rs (Option PyData) := (rsO (b.sd.bind keyTD)).bind fun k => .ok (dGet kvs k)
/-- what a dict holds at a key -/
def gAt (a b : RV) : Rs (Option PyData) := match a.dk with
  | some kvs => gGetDK kvs b
  | none => (match a.dt with
    | some kvs => gGetDT kvs b
    | none => .no)
theorem gAt_ok {v1 v2 : V} {a b : RV} {o : Option PyData} (s : Same F H) (h1 : RVok K H0 F H v1 a) (h2 : RVok K H0 F H v2 b) (e : gAt a b = .ok o) :
    (∃ p z, v1 = .ref p ∧ DGet H p v2 z ∧ ((z = none ∧ o = none) ∨ ∃ w d, z = some w ∧ o = some d ∧ Dq K F w d)) ∨
    (∃ p c n xs ks, v1 = .ref p ∧ v2 = .ref c ∧ H p = some (DTO p (n, xs)) ∧ KeysIn K H xs ∧ SqT K H c (ks.map V.int) ∧ ((atKey xs ks = none ∧ o = none) ∨ ∃ q d w, atKey xs ks = some q ∧ o = some d ∧ RelV w q.2 ∧ Dq K F w d)) := by
  unfold gAt at e
  cases e1 : a.dk with
  | some kvs =>
    rw [e1] at e
    obtain ⟨p, xs, rfl, hp, kd⟩ := dk_ok h1 e1
    simp only [gGetDK] at e
    cases e2 : b.sd with
    | none => rw [e2] at e; cases e
    | some x =>
      rw [e2] at e
      simp only [Option.bind_some] at e
      cases e3 : keyD x with
      | none => rw [e3] at e; cases e
      | some k =>
        rw [e3] at e
        simp only [rsO_some, Rs.bind_ok, Rs.ok.injEq] at e
        subst e
        obtain rfl := keyD_ok (sd_ok h2 e2) e3
        refine .inl ⟨p, _, rfl, dgetR hp, ?_⟩
        rcases kd.at k with h | ⟨w, d, h⟩
        · exact .inl h
        · exact .inr ⟨w, d, h⟩
  | none =>
    rw [e1] at e
    simp only at e
    cases e4 : a.dt with
    | none => rw [e4] at e; cases e
    | some kvs =>
      rw [e4] at e
      obtain ⟨p, n, xs, rfl, hp, kd⟩ := dt_ok h1 e4
      simp only [gGetDT] at e
      cases e2 : b.sd with
      | none => rw [e2] at e; cases e
      | some x =>
        rw [e2] at e
        simp only [Option.bind_some] at e
        cases e3 : keyTD x with
        | none => rw [e3] at e; cases e
        | some k =>
          rw [e3] at e
          simp only [rsO_some, Rs.bind_ok, Rs.ok.injEq] at e
          subst e
          obtain ⟨c, rfl, hc⟩ := keyTD_ok (sd_ok h2 e2) e3
          exact .inr ⟨p, c, n, xs, k, rfl, rfl, hp, kd.keys s, same_seqT s hc.1, kd.at k⟩
def gIxD (a b : RV) : Rs RV := (gAt a b).bind fun o => (rsO o).bind fun d => .ok (.d d)
def gInD (a b : RV) : Rs RV := (gAt b a).bind fun o => okB o.isSome
def gNotInD (a b : RV) : Rs RV := (gAt b a).bind fun o => okB (!o.isSome)
theorem gAt_ex {a b : RV} {c : Nat} {fs : List (Str × PyData)} : gAt a b ≠ .ex c fs := fun e => by
  unfold gAt gGetDK gGetDT at e
  split at e
  · cases e2 : b.sd.bind keyD <;> rw [e2] at e <;> cases e
  · split at e
    · cases e2 : b.sd.bind keyTD <;> rw [e2] at e <;> cases e
    · cases e
theorem s_ixD : Op2S K ca (fun x y H Q => rIxDK x y H Q ∨ rIxDT K x y H Q) gIxD := by
  intro W σ F0 H0 F H v1 v2 a b Q gr h1 h2 p
  unfold gIxD at p
  cases e : gAt a b with
  | no => rw [e] at p; exact p.elim
  | ex c fs => exact absurd e gAt_ex
  | ok o =>
    rw [e] at p
    rcases gAt_ok gr.cfg.sub h1 h2 e with ⟨q, z, rfl, g, hz⟩ | ⟨q, c, n, xs, ks, rfl, rfl, hp, kk, hk, hz⟩
    · rcases hz with ⟨rfl, rfl⟩ | ⟨w, d, rfl, rfl, dq⟩
      · exact p.elim
      · exact .inl ⟨q, w, rfl, g, p F H _ gr dq⟩
    · rcases hz with ⟨_, rfl⟩ | ⟨q', d, w, hq, rfl, rw', dq⟩
      · exact p.elim
      · exact .inr ⟨q, c, n, xs, ks, q', w, rfl, rfl, hp, kk, hk, hq, rw', p F H _ gr dq⟩
theorem s_inD : Op2S K ca (rOr rInDK (rInDT K)) gInD := by
  intro W σ F0 H0 F H v1 v2 a b Q gr h1 h2 p
  unfold gInD at p
  cases e : gAt b a with
  | no => rw [e] at p; exact p.elim
  | ex c fs => exact absurd e gAt_ex
  | ok o =>
    rw [e] at p
    rcases gAt_ok gr.cfg.sub h2 h1 e with ⟨q, z, rfl, g, hz⟩ | ⟨q, c, n, xs, ks, rfl, rfl, hp, kk, hk, hz⟩
    · refine .inl ⟨q, z, rfl, g, ?_⟩
      rcases hz with ⟨rfl, rfl⟩ | ⟨w, d, rfl, rfl, dq⟩ <;> exact p F H _ gr (.bl _)
    · refine .inr ⟨q, c, n, xs, ks, rfl, rfl, hp, kk, hk, ?_⟩
      rcases hz with ⟨e1, rfl⟩ | ⟨q', d, w, hq, rfl, rw', dq⟩
      · rw [e1]; exact p F H _ gr (.bl _)
      · rw [hq]; exact p F H _ gr (.bl _)
theorem s_notInD : Op2S K ca (rOr rNotInDK (rNotInDT K)) gNotInD := by
  intro W σ F0 H0 F H v1 v2 a b Q gr h1 h2 p
  unfold gNotInD at p
  cases e : gAt b a with
  | no => rw [e] at p; exact p.elim
  | ex c fs => exact absurd e gAt_ex
  | ok o =>
    rw [e] at p
    rcases gAt_ok gr.cfg.sub h2 h1 e with ⟨q, z, rfl, g, hz⟩ | ⟨q, c, n, xs, ks, rfl, rfl, hp, kk, hk, hz⟩
    · refine .inl ⟨q, z, rfl, g, ?_⟩
      rcases hz with ⟨rfl, rfl⟩ | ⟨w, d, rfl, rfl, dq⟩ <;> exact p F H _ gr (.bl _)
    · refine .inr ⟨q, c, n, xs, ks, rfl, rfl, hp, kk, hk, ?_⟩
      rcases hz with ⟨e1, rfl⟩ | ⟨q', d, w, hq, rfl, rw', dq⟩
      · rw [e1]; exact p F H _ gr (.bl _)
      · rw [hq]; exact p F H _ gr (.bl _)
end
section
variable {ca : CA} {W : WX} {X : Cx} {a b e : Expr} {es : List Expr} {fa fb fc : VEnv → Rs RV} {pos apos cpos : Pos}
theorem ix_d (hu : X.A.units + 1 < cLine) : IxR X (fun x y H Q => rIxDK x y H Q ∨ rIxDT X.K x y H Q) := (ix_dk hu).or (ix_dt hu)
theorem op_inD2 (hu : X.A.units + 1 < cLine) : OpR X (compareOp .In) (rOr rInDK (rInDT X.K)) := op_or' (op_inDK hu) (op_inDT hu)
theorem op_notInD2 (hu : X.A.units + 1 < cLine) : OpR X (compareOp .NotIn) (rOr rNotInDK (rNotInDT X.K)) := op_or' (op_notInDK hu) (op_notInDT hu)
theorem hu1 {A : Around} {k : Nat} (hr : Room k A) : A.units + 1 < cLine := by have := hr.un; omega
/-! ### {} -/
def cDT : VEnv → Rs RV := fun _ => .ok (.ot [])
def cDK : VEnv → Rs RV := fun _ => .ok (.od [])
theorem ve_dnewT : VE ca W X (.Dict [] [] pos) cDT := by
  refine ⟨_, pe_dnewO, fun B F env σ H Q st p q n => ?_⟩
  have g := Grow.newO st.cfg (DTO q (0, [])) n DTO_tup
  exact p _ _ _ g ⟨q, (0, []), rfl, n, same_none st.cfg.sub n, upd_same, .nil⟩
theorem ve_dnewK : VE ca W X (.Dict [] [] pos) cDK := by
  refine ⟨_, pe_dnewK, fun B F env σ H Q st p q n => ?_⟩
  have g := Grow.newO st.cfg (.dK []) n (fun _ z => by cases z)
  exact p _ _ _ g ⟨q, [], rfl, n, same_none st.cfg.sub n, upd_same, .nil⟩
/-- {k: v} -/
def cDisp1 (fa fb : VEnv → Rs RV) : VEnv → Rs RV := fun env => (fa env).bind fun x => (fb env).bind fun y => (rsO (x.sd.bind keyTD)).bind fun k => (rsO y.toD).bind fun d => .ok (.ot [(k, d)])
theorem ve_disp1 (hu : X.A.units + 1 < cLine) (ha : VE ca W X a fa) (hb : VE ca W X b fb) : VE ca W X (.Dict [some a] [b] pos) (cDisp1 fa fb) := by
  obtain ⟨ta, pa, sa⟩ := ha
  obtain ⟨tb, pb, sb⟩ := hb
  refine ⟨_, pe_disp1 hu pa pb, fun B F env σ H Q st p q n => ?_⟩
  have g := Grow.newO st.cfg (DTO q (0, [])) n DTO_tup
  have st0 := st.grow g
  refine seqE (PostE X.K ca W σ F H Q) sa st0 p (fun _ _ h => PostX.mono g h) (fun h => h) fun x F1 H1 v1 p1 g1 q1 => ?_
  refine seqE (PostE X.K ca W σ F H Q) sb (st0.grow g1) p1 (fun _ _ h => PostX.mono (g.trans g1) h) (fun h => h) fun y F2 H2 v2 p2 g2 q2 => ?_
  have hq : H2 q = some (DTO q (0, [])) := (g1.trans g2).hh _ _ upd_same
  cases e1 : x.sd with
  | none => rw [e1] at p2; exact p2.elim
  | some d1 =>
    rw [e1] at p2
    simp only [Option.bind_some] at p2
    cases e2 : keyTD d1 with
    | none => rw [e2] at p2; exact p2.elim
    | some k =>
      rw [e2] at p2
      simp only [rsO_some, Rs.bind_ok] at p2
      cases e3 : y.toD with
      | none => rw [e3] at p2; exact p2.elim
      | some d2 =>
        rw [e3] at p2
        simp only [rsO_some, Rs.bind_ok] at p2
        obtain ⟨c, rfl, hc⟩ := keyTD_ok (sd_ok (q1.grow g2) e1) e2
        obtain ⟨F3, g3, s3, q3⟩ := frz g2 (Fz.of q2 e3)
        have f1 : F1 q = none := g1.stillFree (same_none st.cfg.sub n) upd_same
        have f3 : F3 q = none := g3.stillFree f1 (g1.hh _ _ upd_same)
        have hc3 := same_seqN s3 hc
        refine ⟨hq, c, k, rfl, same_seqT g3.cfg.sub hc3.1, fun u n' ru => ?_⟩
        exact p2 _ _ _ ((g.trans (g1.trans g3)).write n f3 hq DTO_tup) ⟨q, (n', [(k, c, u)]), rfl, n, f3, upd_same, .cons ⟨rfl, hc3, v2, ru, q3⟩ .nil⟩
/-- {"a": "b", "c": "d"} -/
def cDispS (x y z w : Str) : VEnv → Rs RV := fun _ => .ok (.od [(.inr x, .str y), (.inr z, .str w)])
theorem ve_dispS {x y z w : Str} {k1 k2 k3 k4 : Nat} {p1 p2 p3 p4 : Pos} (hne : x ≠ z) : VE ca W X (.Dict [some (.Constant (.str x) k1 p1), some (.Constant (.str z) k2 p2)] [.Constant (.str y) k3 p3, .Constant (.str w) k4 p4] pos) (cDispS x y z w) := by
  refine ⟨_, pe_disp (pps_cons pe_str pe_str (pps_cons pe_str pe_str pps_nil)) rfl rfl (by simp) (by simp), fun B F env σ H Q st p q n => ?_⟩
  have g := Grow.newO st.cfg (.dK []) n (fun _ z => by cases z)
  have nF := same_none st.cfg.sub n
  refine ⟨upd_same, [(.inr x, .str y), (.inr z, .str w)], rfl, by simp, ?_⟩
  have e : mergeK [] [((.inr x : Key), V.str y), (.inr z, .str w)] = [((.inr x : Key), V.str y), (.inr z, .str w)] := by
    have h2 : ¬ ((Sum.inr x : Key) = .inr z) := fun h => hne (by injection h)
    show putK (putK [] (Sum.inr x) (V.str y)) (Sum.inr z) (V.str w) = _
    have h1 : putK [] (Sum.inr x : Key) (V.str y) = [(Sum.inr x, V.str y)] := rfl
    rw [h1, putK_new _ (by rw [valV_neg h2]; rfl)]
    rfl
  rw [e]
  exact p _ _ _ (g.write n nF upd_same (fun _ z => by cases z)) ⟨q, _, rfl, n, nF, upd_same, .cons ⟨rfl, .str _⟩ (.cons ⟨rfl, .str _⟩ .nil)⟩
/-! ### d[k] = e, xs[i] = e -/
/-- the store into a dict or a list of the def's own -/
def stR (r0 : RV) (ix : RV) (d : PyData) : Rs RV := match r0 with
  | .ol xs => (match ix with
    | .d (.int k) => (rsO (ixN xs.length k)).bind fun j => .ok (.ol (xs.set j d))
    | _ => .no)
  | .od kvs => (rsO (ix.sd.bind keyD)).bind fun k => if kvs.length ≤ 1000000 then .ok (.od (dPut kvs k d)) else .no
  | .ot kvs => (rsO (ix.sd.bind keyTD)).bind fun k => if kvs.length ≤ 1000000 then .ok (.ot (dPut kvs k d)) else .no
  | _ => .no
def sStoreA (i : Nat) (fi fe : VEnv → Rs RV) : VEnv → Out := fun env => match env[i]? with
  | some (some r0) => (fe env).out env fun r => (fi env).out env fun ix => (rsO r.toD).out env fun d => (stR r0 ix d).out env fun r1 => .nx (env.set i (some r1))
  | _ => .no
theorem vs_storeA (i : Nat) {x : Str} {ie : Expr} {p1 p2 : Pos} {fi : VEnv → Rs RV} (hu : X.A.units + 1 < cLine) (he : VE ca W X e fa) (hi : VE ca W X ie fi) (hN : X.N[i]? = some x := by rfl) (hv : Vis X.env.scope x := by first | exact Or.inl rfl | exact Or.inr (Or.inl rfl) | exact Or.inr (Or.inr rfl)) (hd : (x == ("__debug__" : Str)) = false := by decide) (hcd : (x == ("__classdict__" : Str)) = false := by decide)
    (ha : ∀ v, assign (.Subscript (.Name x p1) ie p2) X.env v = (do
      let ov ← holding [v] (eval (.Name x p1) X.env)
      let iv ← holding [v, ov] (eval ie X.env)
      standAt p2
      holding [v, ov, iv] (setItem ov iv v)
      release [v, ov, iv] []) := by intro _; rfl)
    (hs : swapsWithSole [.Subscript (.Name x p1) ie p2] e pos.line X.env = pure false := by rfl) (hw : swappedStores [.Subscript (.Name x p1) ie p2] e X.env = pure none := by rfl)
    (h1 : (assignEach [.Subscript (.Name x p1) ie p2] X.env).map (·.2) = [assign (.Subscript (.Name x p1) ie p2) X.env] := by rfl) :
    VS ca W X (.Assign [.Subscript (.Name x p1) ie p2] e pos) (sStoreA i fi fa) := by
  obtain ⟨t, pe, se⟩ := he
  obtain ⟨ti, pi, si⟩ := hi
  refine ⟨_, ps_asg pe (pg_sub (pe_var hN hv hd hcd) pi (set_or set_list (set_or (set_dk hu) (set_dt hu))) ha) hs hw h1, fun B F env σ H D st p => ?_⟩
  show t σ H fun v H1 => ∃ o, σ[i]? = some (some o) ∧ ti σ H1 fun iv H3 => rOrS rSetL (rOrS rSetDK (rSetDT X.K)) o iv v H3 fun H4 => D.nx σ H4
  unfold sStoreA at p
  split at p
  · rename_i r0 e1
    obtain ⟨v0, s1, ok0⟩ := st.sl i r0 e1
    refine outE se st p fun r F1 H1 v p1 g q1 => ⟨_, s1, ?_⟩
    refine outE si (st.grow g) p1 fun ix F2 H2 w p2 g2 q2 => ?_
    cases e2 : r.toD with
    | none => rw [e2] at p2; exact p2.elim
    | some d =>
      rw [e2] at p2
      simp only [rsO_some, Rs.out_ok] at p2
      obtain ⟨F3, g3, s3, q3⟩ := frz (g.trans g2) (Fz.of (q1.grow g2) e2)
      cases r0 with
      | ol xs =>
        obtain ⟨a, vs, rfl, n0, f0, hp, q⟩ := ok0
        have hp3 := g3.hh _ _ hp
        have f3 := g3.stillFree f0 hp
        cases ix with
        | d y =>
          cases y with
          | int k =>
            simp only [stR] at p2
            cases e3 : ixN xs.length k with
            | none => rw [e3] at p2; exact p2.elim
            | some j =>
              rw [e3] at p2
              cases q2
              refine .inl ⟨a, vs, k, j, rfl, rfl, hp3, by rw [q.length]; exact e3, ?_⟩
              exact p2 F3 σ _ s3 ((st.grow g3).write (r1 := .ol (xs.set j d)) e1 rfl s1 hp3 n0 f3 (fun _ z => by cases z) ⟨a, _, rfl, n0, f3, upd_same, DqA.set q3 j (DqA.mono g3.ff _ _ q)⟩ rfl)
          | _ => exact p2.elim
        | _ => exact p2.elim
      | od kvs =>
        obtain ⟨a, vs, rfl, n0, f0, hp, q⟩ := ok0
        have hp3 := g3.hh _ _ hp
        have f3 := g3.stillFree f0 hp
        simp only [stR] at p2
        cases e4 : ix.sd with
        | none => rw [e4] at p2; exact p2.elim
        | some y =>
          rw [e4] at p2
          simp only [Option.bind_some] at p2
          cases e5 : keyD y with
          | none => rw [e5] at p2; exact p2.elim
          | some k =>
            rw [e5] at p2
            simp only [rsO_some, Rs.bind_ok] at p2
            split at p2
            · rename_i hz
              obtain rfl := keyD_ok (sd_ok q2 e4) e5
              refine .inr (.inl ⟨a, vs, k, rfl, rfl, hp3, by rw [q.length]; exact million hz, ?_⟩)
              exact p2 F3 σ _ s3 ((st.grow g3).write (r1 := .od (dPut kvs k d)) e1 rfl s1 hp3 n0 f3 (fun _ z => by cases z) ⟨a, _, rfl, n0, f3, upd_same, (q.mono g3.ff).put k q3⟩ rfl)
            · exact p2.elim
      | ot kvs =>
        obtain ⟨a, ⟨n, vs⟩, rfl, n0, f0, hp, q⟩ := ok0
        have hp3 := g3.hh _ _ hp
        have f3 := g3.stillFree f0 hp
        simp only [stR] at p2
        cases e4 : ix.sd with
        | none => rw [e4] at p2; exact p2.elim
        | some y =>
          rw [e4] at p2
          simp only [Option.bind_some] at p2
          cases e5 : keyTD y with
          | none => rw [e5] at p2; exact p2.elim
          | some k =>
            rw [e5] at p2
            simp only [rsO_some, Rs.bind_ok] at p2
            split at p2
            · rename_i hz
              obtain ⟨c, rfl, hc⟩ := keyTD_ok (sd_ok q2 e4) e5
              have q' : KTl X.K F3 vs kvs := q.mono g3.ff
              have hc3 := same_seqN s3 hc
              refine .inr (.inr ⟨a, c, n, vs, k, rfl, rfl, hp3, q'.keys g3.cfg.sub, same_seqT g3.cfg.sub hc3.1, by rw [q'.len]; exact million hz, fun u n' ru => ?_⟩)
              exact p2 F3 σ _ s3 ((st.grow g3).write (r1 := .ot (dPut kvs k d)) e1 rfl s1 hp3 n0 f3 DTO_tup ⟨a, (n', _), rfl, n0, f3, upd_same, q'.put k hc3 ru q3⟩ rfl)
            · exact p2.elim
      | _ => exact p2.elim
  · exact p.elim
/-- del d[k] -/
def sDel (i : Nat) (fi : VEnv → Rs RV) : VEnv → Out := fun env => match env[i]? with
  | some (some (.od kvs)) => (fi env).out env fun ix => (rsO (ix.sd.bind keyD)).out env fun k => if (dGet kvs k).isSome = true then .nx (env.set i (some (.od (dDrop kvs k)))) else .no
  | _ => .no
theorem vs_del (i : Nat) {x : Str} {ie : Expr} {p1 p2 : Pos} {fi : VEnv → Rs RV} (hi : VE ca W X ie fi) (hN : X.N[i]? = some x := by rfl) (hv : Vis X.env.scope x := by first | exact Or.inl rfl | exact Or.inr (Or.inl rfl) | exact Or.inr (Or.inr rfl)) (hd : (x == ("__debug__" : Str)) = false := by decide) (hcd : (x == ("__classdict__" : Str)) = false := by decide) :
    VS ca W X (.Delete [.Subscript (.Name x p1) ie p2] pos) (sDel i fi) := by
  obtain ⟨ti, pi, si⟩ := hi
  refine ⟨_, ps_ddel (pe_var hN hv hd hcd) pi, fun B F env σ H D st p => ?_⟩
  show ∃ v, σ[i]? = some (some v) ∧ ti σ H fun y H2 => ∃ a kvs k, v = .ref a ∧ H2 a = some (.dK kvs) ∧ y = kV k ∧ (valV kvs k).isSome = true ∧ D.nx σ (upd H2 a (.dK (dropK kvs k)))
  unfold sDel at p
  split at p
  · rename_i kvs e1
    obtain ⟨v0, s1, a, vs, rfl, n0, f0, hp, q⟩ := st.sl i _ e1
    refine ⟨_, s1, ?_⟩
    refine outE si st p fun ix F2 H2 w p2 g2 q2 => ?_
    cases e4 : ix.sd with
    | none => rw [e4] at p2; exact p2.elim
    | some y =>
      rw [e4] at p2
      simp only [Option.bind_some] at p2
      cases e5 : keyD y with
      | none => rw [e5] at p2; exact p2.elim
      | some k =>
        rw [e5] at p2
        simp only [rsO_some, Rs.out_ok] at p2
        split at p2
        · rename_i hz
          obtain rfl := keyD_ok (sd_ok q2 e4) e5
          have hp2 := g2.hh _ _ hp
          have f2 := g2.stillFree f0 hp
          have q' := q.mono g2.ff
          refine ⟨a, vs, k, rfl, hp2, rfl, ?_, ?_⟩
          · rcases q'.at k with ⟨_, h⟩ | ⟨w, d, h, _⟩
            · rw [h] at hz; cases hz
            · rw [h]; rfl
          · exact p2 F2 σ _ (Same.refl _) ((st.grow g2).write (r1 := .od (dDrop kvs k)) e1 rfl s1 hp2 n0 f2 (fun _ z => by cases z) ⟨a, _, rfl, n0, f2, upd_same, q'.drop k⟩ rfl)
        · exact p2.elim
  · exact p.elim
/-! ### d.get -/
theorem gGetDK_ok {K : PySem.W.Frag} {H0 F H : Hp} {v : V} {y : RV} {kvs : List (Key × PyData)} {o : Option PyData} (h : RVok K H0 F H v y) (e : gGetDK kvs y = .ok o) : ∃ k, v = kV k ∧ o = dGet kvs k := by
  unfold gGetDK at e
  cases e2 : y.sd with
  | none => rw [e2] at e; cases e
  | some x =>
    rw [e2] at e
    simp only [Option.bind_some] at e
    cases e3 : keyD x with
    | none => rw [e3] at e; cases e
    | some k =>
      rw [e3] at e
      simp only [rsO_some, Rs.bind_ok, Rs.ok.injEq] at e
      exact ⟨k, keyD_ok (sd_ok h e2) e3, e.symm⟩
theorem gGetDT_ok {K : PySem.W.Frag} {H0 F H : Hp} {v : V} {y : RV} {kvs : List (List Int × PyData)} {o : Option PyData} (h : RVok K H0 F H v y) (e : gGetDT kvs y = .ok o) : ∃ c ks, v = .ref c ∧ SqT K F c (ks.map V.int) ∧ o = dGet kvs ks := by
  unfold gGetDT at e
  cases e2 : y.sd with
  | none => rw [e2] at e; cases e
  | some x =>
    rw [e2] at e
    simp only [Option.bind_some] at e
    cases e3 : keyTD x with
    | none => rw [e3] at e; cases e
    | some k =>
      rw [e3] at e
      simp only [rsO_some, Rs.bind_ok, Rs.ok.injEq] at e
      obtain ⟨c, rfl, hc⟩ := keyTD_ok (sd_ok h e2) e3
      exact ⟨c, k, rfl, hc.1, e.symm⟩
theorem gGetDK_ex {y : RV} {kvs : List (Key × PyData)} {c : Nat} {fs : List (Str × PyData)} : gGetDK kvs y ≠ .ex c fs := fun e => by
  unfold gGetDK at e
  cases e2 : y.sd.bind keyD <;> rw [e2] at e <;> cases e
theorem gGetDT_ex {y : RV} {kvs : List (List Int × PyData)} {c : Nat} {fs : List (Str × PyData)} : gGetDT kvs y ≠ .ex c fs := fun e => by
  unfold gGetDT at e
  cases e2 : y.sd.bind keyTD <;> rw [e2] at e <;> cases e
def cGet1 (fa fb : VEnv → Rs RV) : VEnv → Rs RV := fun env => (fa env).bind fun x => match x.dk with
  | some kvs => (fb env).bind fun y => (gGetDK kvs y).bind fun o => .ok (.d (o.getD .none))
  | none => (match x.dt with
    | some kvs => (fb env).bind fun y => (gGetDT kvs y).bind fun o => .ok (.d (o.getD .none))
    | none => .no)
def cGet2 (fa fb fc : VEnv → Rs RV) : VEnv → Rs RV := fun env => (fa env).bind fun x => match x.dk with
  | some kvs => (fb env).bind fun y => (fc env).bind fun z => (rsO z.sd).bind fun d => (gGetDK kvs y).bind fun o => .ok (.d (o.getD d))
  | none => (match x.dt with
    | some kvs => (fb env).bind fun y => (fc env).bind fun z => (rsO z.sd).bind fun d => (gGetDT kvs y).bind fun o => .ok (.d (o.getD d))
    | none => .no)
theorem ve_get1 (hu : X.A.units + 1 < cLine) (ha : VE ca W X a fa) (hb : VE ca W X b fb) (m : M1 X a "get" apos b cpos) : VE ca W X (.Call (.Attribute a "get" apos) [b] [] cpos) (cGet1 fa fb) := by
  obtain ⟨ta, pa, sa⟩ := ha
  obtain ⟨tb, pb, sb⟩ := hb
  refine ⟨_, pe_get1 hu pa pb m, fun B F env σ H Q st p => ?_⟩
  unfold tGet1
  refine seqE (PostE X.K ca W σ F H Q) sa st p (fun _ _ h => h) (fun h => h) fun x F1 H1 v1 p1 g1 q1 => ?_
  cases e1 : x.dk with
  | some kvs =>
    rw [e1] at p1
    obtain ⟨p', xs, rfl, hp, kd⟩ := dk_ok q1 e1
    refine ⟨p', rfl, .inl ⟨.inl ⟨xs, hp⟩, ?_⟩⟩
    refine seqE (PostE X.K ca W σ F H Q) sb (st.grow g1) p1 (fun _ _ h => PostX.mono g1 h) (fun h => h) fun y F2 H2 v2 p2 g2 q2 => ?_
    cases e : gGetDK kvs y with
    | no => rw [e] at p2; exact p2.elim
    | ex c fs => exact absurd e gGetDK_ex
    | ok o =>
      rw [e] at p2
      obtain ⟨k, rfl, rfl⟩ := gGetDK_ok q2 e
      refine ⟨_, dgetR (rd_same g2.hh hp), ?_⟩
      rcases (kd.mono g2.ff).at k with ⟨h1, h2⟩ | ⟨w, d, h1, h2, dq⟩
      · rw [h2] at p2; rw [h1]; exact p2 F2 H2 _ (g1.trans g2) .non
      · rw [h2] at p2; rw [h1]; exact p2 F2 H2 _ (g1.trans g2) dq
  | none =>
    rw [e1] at p1
    cases e4 : x.dt with
    | none => rw [e4] at p1; exact p1.elim
    | some kvs =>
      rw [e4] at p1
      obtain ⟨p', n, xs, rfl, hp, kd⟩ := dt_ok q1 e4
      refine ⟨p', rfl, .inr ⟨n, xs, hp, kd.keys g1.cfg.sub, ?_⟩⟩
      refine seqE (PostE X.K ca W σ F H Q) sb (st.grow g1) p1 (fun _ _ h => PostX.mono g1 h) (fun h => h) fun y F2 H2 v2 p2 g2 q2 => ?_
      cases e : gGetDT kvs y with
      | no => rw [e] at p2; exact p2.elim
      | ex c fs => exact absurd e gGetDT_ex
      | ok o =>
        rw [e] at p2
        obtain ⟨c, k, rfl, hc, rfl⟩ := gGetDT_ok q2 e
        have kd2 := kd.mono g2.ff
        rcases kd2.at k with ⟨h1, h2⟩ | ⟨q, d, w, h1, h2, rw', dq⟩
        · rw [h2] at p2
          exact ⟨c, k, .non, rfl, g2.hh _ _ hp, kd2.keys g2.cfg.sub, same_seqT g2.cfg.sub hc, by rw [h1]; rfl, p2 F2 H2 _ (g1.trans g2) .non⟩
        · rw [h2] at p2
          exact ⟨c, k, w, rfl, g2.hh _ _ hp, kd2.keys g2.cfg.sub, same_seqT g2.cfg.sub hc, by rw [h1]; exact rw', p2 F2 H2 _ (g1.trans g2) dq⟩
theorem ve_get2 {c : Expr} (hu : X.A.units + 1 < cLine) (ha : VE ca W X a fa) (hb : VE ca W X b fb) (hc : VE ca W X c fc) (m : M2 X a "get" apos b c cpos) : VE ca W X (.Call (.Attribute a "get" apos) [b, c] [] cpos) (cGet2 fa fb fc) := by
  obtain ⟨ta, pa, sa⟩ := ha
  obtain ⟨tb, pb, sb⟩ := hb
  obtain ⟨tc, pc, sc⟩ := hc
  refine ⟨_, pe_get2 hu pa pb pc m, fun B F env σ H Q st p => ?_⟩
  unfold tGet2
  refine seqE (PostE X.K ca W σ F H Q) sa st p (fun _ _ h => h) (fun h => h) fun x F1 H1 v1 p1 g1 q1 => ?_
  cases e1 : x.dk with
  | some kvs =>
    rw [e1] at p1
    obtain ⟨p', xs, rfl, hp, kd⟩ := dk_ok q1 e1
    refine ⟨p', rfl, .inl ⟨.inl ⟨xs, hp⟩, ?_⟩⟩
    refine seqE (PostE X.K ca W σ F H Q) sb (st.grow g1) p1 (fun _ _ h => PostX.mono g1 h) (fun h => h) fun y F2 H2 v2 p2 g2 q2 => ?_
    refine seqE (PostE X.K ca W σ F H Q) sc ((st.grow g1).grow g2) p2 (fun _ _ h => PostX.mono (g1.trans g2) h) (fun h => h) fun z F3 H3 v3 p3 g3 q3 => ?_
    cases ez : z.sd with
    | none => rw [ez] at p3; exact p3.elim
    | some dz =>
    rw [ez] at p3
    simp only [rsO_some, Rs.bind_ok] at p3
    have dqz := sd_ok q3 ez
    cases e : gGetDK kvs y with
    | no => rw [e] at p3; exact p3.elim
    | ex c fs => exact absurd e gGetDK_ex
    | ok o =>
      rw [e] at p3
      obtain ⟨k, rfl, rfl⟩ := gGetDK_ok q2 e
      refine ⟨_, dgetR (rd_same (g2.trans g3).hh hp), ?_⟩
      rcases (kd.mono (g2.trans g3).ff).at k with ⟨h1, h2⟩ | ⟨w, d, h1, h2, dq⟩
      · rw [h2] at p3; rw [h1]; exact p3 F3 H3 _ ((g1.trans g2).trans g3) dqz
      · rw [h2] at p3; rw [h1]; exact p3 F3 H3 _ ((g1.trans g2).trans g3) dq
  | none =>
    rw [e1] at p1
    cases e4 : x.dt with
    | none => rw [e4] at p1; exact p1.elim
    | some kvs =>
      rw [e4] at p1
      obtain ⟨p', n, xs, rfl, hp, kd⟩ := dt_ok q1 e4
      refine ⟨p', rfl, .inr ⟨n, xs, hp, kd.keys g1.cfg.sub, ?_⟩⟩
      refine seqE (PostE X.K ca W σ F H Q) sb (st.grow g1) p1 (fun _ _ h => PostX.mono g1 h) (fun h => h) fun y F2 H2 v2 p2 g2 q2 => ?_
      refine seqE (PostE X.K ca W σ F H Q) sc ((st.grow g1).grow g2) p2 (fun _ _ h => PostX.mono (g1.trans g2) h) (fun h => h) fun z F3 H3 v3 p3 g3 q3 => ?_
      cases ez : z.sd with
      | none => rw [ez] at p3; exact p3.elim
      | some dz =>
      rw [ez] at p3
      simp only [rsO_some, Rs.bind_ok] at p3
      have dqz := sd_ok q3 ez
      cases e : gGetDT kvs y with
      | no => rw [e] at p3; exact p3.elim
      | ex c fs => exact absurd e gGetDT_ex
      | ok o =>
        rw [e] at p3
        obtain ⟨c, k, rfl, hc, rfl⟩ := gGetDT_ok (q2.grow g3) e
        have kd2 := kd.mono (g2.trans g3).ff
        have hp3 := (g2.trans g3).hh _ _ hp
        rcases kd2.at k with ⟨h1, h2⟩ | ⟨q, d, w, h1, h2, rw', dq⟩
        · rw [h2] at p3
          exact ⟨c, k, v3, rfl, hp3, kd2.keys g3.cfg.sub, same_seqT g3.cfg.sub hc, fun u ru => by rw [h1]; exact ru, p3 F3 H3 _ ((g1.trans g2).trans g3) dqz⟩
        · rw [h2] at p3
          exact ⟨c, k, w, rfl, hp3, kd2.keys g3.cfg.sub, same_seqT g3.cfg.sub hc, fun u ru => by rw [h1]; exact rw', p3 F3 H3 _ ((g1.trans g2).trans g3) dq⟩
/-! ### reckoning -/
variable (f : VEnv → Out) (env : VEnv) (i : Nat) (x y : PyData) (kvs : List (Key × PyData)) (kts : List (List Int × PyData))
theorem e_aug (g : RV → RV → Rs RV) : sAug i g fa env = match env[i]? with
  | some (some r0) => (fa env).out env fun r => (g r0.bor r).out env fun z => putS i z env
  | _ => .no := rfl
theorem e_decT {h : Decidable True} : @decide True h = true := by simp
theorem e_decF {h : Decidable False} : @decide False h = false := by simp
theorem e_cDispS (x y z w : Str) : cDispS x y z w env = .ok (.od [(.inr x, .str y), (.inr z, .str w)]) := rfl
theorem e_cDT : cDT env = .ok (.ot []) := rfl
theorem e_cDK : cDK env = .ok (.od []) := rfl
theorem e_cDisp1 : cDisp1 fa fb env = (fa env).bind fun x => (fb env).bind fun y => (rsO (x.sd.bind keyTD)).bind fun k => (rsO y.toD).bind fun d => .ok (.ot [(k, d)]) := rfl
theorem e_storeA (fi fe : VEnv → Rs RV) : sStoreA i fi fe env = match env[i]? with
  | some (some r0) => (fe env).out env fun r => (fi env).out env fun ix => (rsO r.toD).out env fun d => (stR r0 ix d).out env fun r1 => .nx (env.set i (some r1))
  | _ => .no := rfl
theorem e_stR1 (xs : List PyData) (k : Int) : stR (.ol xs) (.d (.int k)) x = (rsO (ixN xs.length k)).bind fun j => .ok (.ol (xs.set j x)) := rfl
theorem e_stR2 (r : RV) : stR (.od kvs) r x = (rsO (r.sd.bind keyD)).bind fun k => if kvs.length ≤ 1000000 then .ok (.od (dPut kvs k x)) else .no := rfl
theorem e_stR3 (r : RV) : stR (.ot kts) r x = (rsO (r.sd.bind keyTD)).bind fun k => if kts.length ≤ 1000000 then .ok (.ot (dPut kts k x)) else .no := rfl
theorem e_sd1 : (RV.d x).sd = some x := rfl
theorem e_keyD1 (k : Int) : keyD (.int k) = some (.inl k) := rfl
theorem e_keyD2 (k : Str) : keyD (.str k) = some (.inr k) := rfl
theorem e_keyTD (xs : List PyData) : keyTD (.tuple xs) = intsD xs := rfl
theorem e_intsD (ns : List Int) : intsD (ns.map .int) = some ns := intsD_map ns
theorem e_intsD0 : intsD [] = some [] := rfl
theorem e_borT : (RV.ot kts).bor = .bt kts := rfl
theorem e_borT2 : (RV.bt kts).bor = .bt kts := rfl
theorem e_borK : (RV.od kvs).bor = .bd kvs := rfl
theorem e_borK2 : (RV.bd kvs).bor = .bd kvs := rfl
theorem e_argT : (RV.ot kts).arg = .bt kts := rfl
theorem e_argT2 : (RV.bt kts).arg = .bt kts := rfl
theorem e_argK : (RV.od kvs).arg = .bd kvs := rfl
theorem e_argK2 : (RV.bd kvs).arg = .bd kvs := rfl
theorem e_nbT : (RV.ot kts).nb = .ok (.ot kts) := rfl
theorem e_nbK : (RV.od kvs).nb = .ok (.od kvs) := rfl
theorem e_putT : putS i (.ot kts) env = if i < env.length then .nx (env.set i (some (.ot kts))) else .no := rfl
theorem e_putK : putS i (.od kvs) env = if i < env.length then .nx (env.set i (some (.od kvs))) else .no := rfl
theorem e_gAt1 (b : RV) : gAt (.bt kts) b = gGetDT kts b := rfl
theorem e_gAt2 (b : RV) : gAt (.bd kvs) b = gGetDK kvs b := rfl
theorem e_gAt3 (b : RV) : gAt (.od kvs) b = gGetDK kvs b := rfl
theorem e_gAt4 (b : RV) : gAt (.ot kts) b = gGetDT kts b := rfl
theorem e_gGetDK (b : RV) : gGetDK kvs b = (rsO (b.sd.bind keyD)).bind fun k => .ok (dGet kvs k) := rfl
theorem e_gGetDT (b : RV) : gGetDT kts b = (rsO (b.sd.bind keyTD)).bind fun k => .ok (dGet kts k) := rfl
theorem e_gIxD (a b : RV) : gIxD a b = (gAt a b).bind fun o => (rsO o).bind fun d => .ok (.d d) := rfl
theorem e_gInD (a b : RV) : gInD a b = (gAt b a).bind fun o => okB o.isSome := rfl
theorem e_gNotInD (a b : RV) : gNotInD a b = (gAt b a).bind fun o => okB (!o.isSome) := rfl
theorem e_cGet1 : cGet1 fa fb env = (fa env).bind fun x => match x.dk with
  | some kvs => (fb env).bind fun y => (gGetDK kvs y).bind fun o => .ok (.d (o.getD .none))
  | none => (match x.dt with
    | some kvs => (fb env).bind fun y => (gGetDT kvs y).bind fun o => .ok (.d (o.getD .none))
    | none => .no) := rfl
theorem e_cGet2 : cGet2 fa fb fc env = (fa env).bind fun x => match x.dk with
  | some kvs => (fb env).bind fun y => (fc env).bind fun z => (rsO z.sd).bind fun d => (gGetDK kvs y).bind fun o => .ok (.d (o.getD d))
  | none => (match x.dt with
    | some kvs => (fb env).bind fun y => (fc env).bind fun z => (rsO z.sd).bind fun d => (gGetDT kvs y).bind fun o => .ok (.d (o.getD d))
    | none => .no) := rfl
theorem e_dk1 : (RV.bd kvs).dk = some kvs := rfl
theorem e_dk2 : (RV.od kvs).dk = some kvs := rfl
theorem e_dk3 : (RV.bt kts).dk = none := rfl
theorem e_dk4 : (RV.ot kts).dk = none := rfl
theorem e_dt1 : (RV.bt kts).dt = some kts := rfl
theorem e_dt2 : (RV.ot kts).dt = some kts := rfl
theorem e_del (fi : VEnv → Rs RV) : sDel i fi env = match env[i]? with
  | some (some (.od kvs)) => (fi env).out env fun ix => (rsO (ix.sd.bind keyD)).out env fun k => if (dGet kvs k).isSome = true then .nx (env.set i (some (.od (dDrop kvs k)))) else .no
  | _ => .no := rfl
end
end VL

namespace VL
open PySem PySem.Spec PyProof.Rows L2

/-! ## an own exception class: super().__init__(e), fields -/
theorem lookup_mem {l : List (Str × Value)} {y : Str} {u : Value} (nd : (l.map (·.1)).Nodup) (h : (y, u) ∈ l) : l.lookup y = some u := by
  induction l with
  | nil => cases h
  | cons p l ih =>
    obtain ⟨x, v⟩ := p
    rw [List.map_cons, List.nodup_cons] at nd
    rcases List.mem_cons.mp h with e | h
    · cases e; simp [List.lookup]
    · have ne : y ≠ x := fun z => nd.1 (z ▸ List.mem_map_of_mem (f := (·.1)) h)
      have e : (y == x) = false := by simpa using ne
      simp only [List.lookup, e]
      exact ih nd.2 h
theorem lookup_zip {ps : List Str} {us : List Value} {i : Nat} {y : Str} {u : Value} (nd : ps.Nodup) (hl : us.length = ps.length) (h1 : ps[i]? = some y) (h2 : us[i]? = some u) : (ps.zip us).reverse.lookup y = some u := by
  refine lookup_mem ?_ (List.mem_reverse.mpr ?_)
  · rw [List.map_reverse, List.map_fst_zip (by omega)]; unfold List.Nodup; rw [List.pairwise_reverse]; exact nd.imp fun h => Ne.symm h
  · have : (ps.zip us)[i]? = some (y, u) := by rw [List.getElem?_zip_eq_some]; exact ⟨h1, h2⟩
    exact List.mem_of_getElem? this

abbrev envI (qual : Str) (scope : Scope) (L f : Addr) (cdv : Value) (cc : Addr) : Env := PySem.W.ksEnv qual scope L f cdv cc
def cxI (CX : CXT) (P : Program) (w : World) (K : PySem.W.Frag) (mg : Str → Option Value) (base : Heap) (N : List Str) (qual : Str) (scope : Scope) (f : Addr) (cd : Value) (cc : Addr) (A : Around) (outer : List Env) (s : Shared) (H : Hp) (E : XK) : Cx where
  prog := P
  w := w
  K := K
  mg := mg
  base := base
  A := A.deeper (envI qual scope s.heap.objs.size f cd cc)
  N := N
  s_0 := s
  H_0 := H
  env := envI qual scope s.heap.objs.size f cd cc
  outer := outer
  stack := envI qual scope s.heap.objs.size f cd cc :: outer
  ex := []
  calm := true
  fn := fun x => x != "__class__"
  pn := []
  xe := fun e s' => wpAny (model P w) (A.deeper (envI qual scope s.heap.objs.size f cd cc)) (leaving (envI qual scope s.heap.objs.size f cd cc) e) (fun _ s'' => CX outer H s E e s'') (fun e' s'' => CX outer H s E e' s'') s'

structure IniS (N ps : List Str) (sc : Scope) : Prop where
  kind : sc.kind = .function
  co : sc.isCoroutine = false
  gen : sc.isGenerator = false
  nd : N.Nodup
  pre : N.take ps.length = ps
  par : ∀ x ∈ ps, sc.names.lookup x = some .local
  nocell : ∀ y ∈ sc.names, y.2 ≠ .cell
  free : ∀ y ∈ sc.names, y.2 = .free → y.1 = ("__class__" : Str)
  sup : sc.names.lookup ("super" : Str) = some .globalImplicit
  cls : sc.names.lookup ("__class__" : Str) = some .free

structure IniF (P : Program) (K : PySem.W.Frag) (mg : Str → Option Value) (C fI : Addr) (name qual : Str) (params : Arguments) (body : List Stmt) (scope : Scope) (fd : FuncData) (cc : Addr) (cdv : Value) : Prop where
  oex : OexC K C
  fn : ∃ (dV kV doc pm : Value) (an : Option Addr) (ct oc : Value) (od : Option Addr) (osl : Array (Option Value)), fd = PySem.W.ksFn name qual params body scope dV kV doc pm an cdv ct cc ∧ K.lookup fI = some ⟨oc, od, .func fd, osl⟩
  code : PySem.W.codeIn K cdv qual = true
  codeO : ∃ (cda : Addr) (ccl : Value) (cdd : Option Addr) (vs : Array Value) (ccs : Array (Option Value)) (file : Str) (tf : Tok), cdv = .ref cda ∧ K.lookup cda = some ⟨ccl, cdd, .fields vs, ccs⟩ ∧ vs[2]? = some (.str file tf) ∧ ((P.main.file : Str) == file) = true
  cell : ∃ (cl : Value) (cld : Option Addr) (csl : Array (Option Value)), K.lookup cc = some ⟨cl, cld, .cell (some (.ref C)), csl⟩
  sup : ∃ (cd cdT : ClassData) (T : Addr), PySem.W.clsIn K C = some cd ∧ PySem.W.clsIn K T = some cdT ∧ cd.mro = .ref C :: cdT.mro ∧ PySem.W.findIn K (.ref T) "__init__" = some (some (.builtin "ValueError.__init__"))
  subV : PySem.W.subIn K (.ref C) (.type "ValueError") = some true
  opq : PySem.W.nsIn K PySem.cStatics "thirdparty.any" = some none
  nsup : mg "super" = none
  top : (P.main.scope.names.lookup ("super" : Str)).isSome = false

theorem invI {CX : CXT} {P : Program} {w : World} {K : PySem.W.Frag} {mg : Str → Option Value} {base : Heap} {N ps : List Str} {qual : Str} {scope : Scope} {f cc : Addr} {cd : Value} {A : Around} {outer : List Env} {s : Shared} {h₀ : Heap} {t' : Nat} {H : Hp} {E : XK} {us : List Value} {vs : List V} {c : Value}
    (S : IniS N ps scope) (hd : A.handled = none) (e0 : Env0 P w K mg base A outer s H) (hl : vs.length = ps.length) (r : Vals vs us) (hcell : ∃ o, K.lookup cc = some o ∧ o.data = .cell (some c))
    (ns : h₀.Ns s.heap.objs.size (fun x => (ps.zip us).reverse.lookup x)) (hk : ∀ b o, s.heap.get? b = some o → h₀.get? b = some o) :
    Inv (cxI CX P w K mg base N qual scope f cd cc A outer s H E) [] (start N vs) H { s with heap := h₀, toks := t' } := by
  have hpl : ps.length ≤ N.length := by have := congrArg List.length S.pre; rw [List.length_take] at this; omega
  have noA : ∀ b : Addr, b ∉ (cxI CX P w K mg base N qual scope f cd cc A outer s H E).ex := fun b z => absurd (show b ∈ ([] : List Addr) from z) (by simp)
  obtain ⟨oc, hoc, hcd⟩ := hcell
  have hb : base.get? cc = some oc := e0.mod.kin _ _ hoc
  have onlyC : ∀ {x : Str} {b : Addr}, (cxI CX P w K mg base N qual scope f cd cc A outer s H E).env.cells.lookup x = some b → x = ("__class__" : Str) ∧ b = cc := fun {x b} h => by
    have h' : List.lookup x [(("__class__" : Str), cc)] = some b := h
    by_cases e : x = ("__class__" : Str)
    · subst e
      simp [List.lookup] at h'
      exact ⟨rfl, h'.symm⟩
    · have e' : (x == ("__class__" : Str)) = false := by simpa using e
      simp [List.lookup, e'] at h'
  refine ⟨⟨e0.mod, S.kind, rfl, rfl, Nat.le_refl _, fun y z b h1 h2 => ?_, fun y hy => ?_, fun y b hy h => ?_, fun _ => hd, Around.frames_deeper e0.frames, .inr ⟨rfl, rfl⟩, fun b z => absurd z (noA b), e0.bs, e0.bsz, fun b _ _ => noA b, fun b z => absurd z (noA b), e0.funs, e0.frf⟩,
    rfl, e0.bare, Un.kept hk, ⟨_, ns, fun i y v h1 h2 h3 => ?_⟩, fun y b h => ?_, e0.hok.fresh (Nat.le_refl _), fun y b h => ?_, fun p hp => absurd (show p ∈ ([] : List (Addr × Obj)) from hp) (by simp), e0.hok.kept hk, ?_⟩
  · exact (onlyC h1).1.trans (onlyC h2).1.symm
  · have hy : scope.names.lookup y = some .cell ∨ scope.names.lookup y = some .free := hy
    rcases hy with hy | hy
    · exact absurd rfl (S.nocell _ (PySem.mem_of_lookup hy))
    · have := S.free _ (PySem.mem_of_lookup hy) rfl
      exact ⟨cc, by subst this; rfl⟩
  · have := (onlyC h).1
    subst this
    have hy' : ((("__class__" : Str)) != (("__class__" : Str))) = true := hy
    exact absurd hy' (by decide)
  · have hi : i < vs.length := by
      unfold L2.start at h2
      by_cases hi : i < vs.length
      · exact hi
      · rw [List.getElem?_append_right (by simpa using hi)] at h2
        rw [List.getElem?_replicate] at h2
        split at h2 <;> cases h2
    have ha : vs[i]? = some v := by
      unfold L2.start at h2
      rw [List.getElem?_append_left (by simpa using hi), List.getElem?_map] at h2
      cases e : vs[i]? with
      | none => rw [e] at h2; cases h2
      | some a => rw [e] at h2; cases h2; rfl
    obtain ⟨u, hu, rv⟩ := r.get ha
    have hp : ps[i]? = some y := by
      rw [← S.pre, List.getElem?_take_of_lt (by omega)]; exact h1
    have ndP : ps.Nodup := by rw [← S.pre]; exact S.nd.sublist (List.take_sublist _ _)
    exact ⟨u, rv, .inl ⟨S.par y (List.mem_of_getElem? hp), lookup_zip ndP (by rw [← Paired.length r, hl]) hp hu⟩⟩
  · obtain ⟨rfl, rfl⟩ := onlyC h
    exact ⟨_, _, hk _ _ ((e0.bs _ _ hb).1), hcd⟩
  · obtain ⟨rfl, rfl⟩ := onlyC h
    exact (e0.bs _ _ hb).2
  · unfold L2.start
    show _ = N.length
    rw [List.length_append, List.length_map, List.length_replicate]
    omega
end VL

namespace VL
open PySem PySem.Spec PyProof.Rows L2
section
open PySem.W PySem.Calls
variable {prog : Program} {w : World} {A : Around} {E : Value → Shared → Prop} {h : Heap} {g : Array GenState} {d : Drawn} {t : Nat} {os : OsState}
variable {nm q : Str} {C N : Addr} {bs bm : List Value} {hdct : Bool} {sn : List Str} {sub : List Value} {ab : Bool} {col : Option Bool} {dd : Option Addr} {k0 k1 k2 k3 k5 : Option Value}
theorem call_mw {u e t0 : Addr} {rest : List Value} {Q : Value → Shared → Prop}
    (hC : h.get? C = some (excClassObj nm q C N bs bm hdct sn sub ab col dd k0 k1 k2 k3 k5 "ValueError.__new__")) (he : h.get? e = some (HandSPX.excO C t0)) (hu : h.get? u = some (kxs_mw "ValueError.__init__" e)) (hrest : rest.length ≤ sizeLine)
    (hq : ∀ h' t1, (∀ b o, b ≠ e → h.get? b = some o → h'.get? b = some o) → h'.get? e = some (HandSPX.excO C t1) → Q .none ⟨h', g, d, t, os⟩) :
    wpAny (model prog w) A (call (.ref u) rest) Q E ⟨h, g, d, t, os⟩ := by
  refine wpAny_call (codeAny_of_tree ?_)
  show wpAny _ A.in1 (callAny (.ref u) ⟨rest, []⟩) _ _ _
  simp only [callAny]
  refine wpAny_bind (wpAny_load hu ?_)
  simp only [kxs_mw, show (Value.type "method-wrapper" == Value.type "method" || Value.type "method-wrapper" == Value.type "builtin_function_or_method" || Value.type "method-wrapper" == Value.type "method-wrapper") = true by decide, if_true]
  refine KFB.if_so (by decide) ?_
  refine wpAny_bind (ESX.check_bound F.excBase_ValueError hC he rfl ?_)
  refine wpAny_bind (wpAny_pure (wpAny_pure ?_))
  refine ⟨Code.quiet_builtin _ (by decide +kernel), codeAny_builtin F.excBase_ValueError.initEntry ?_⟩
  rw [Around.under_plainId F.excBase_ValueError.init.plain _]
  wp_walk
  refine hq _ h.objs.size (fun b o hb ho => ?_) ?_
  · rw [Heap.get?_update_other _ _ (Ne.symm hb)]
    exact Heap.get?_push_of_some _ ho
  · rw [Heap.get?_update_self _ (Heap.get?_push_of_some _ he) rfl]
    rfl
end
section
open PySem.W
variable {X : Cx} {pins : List (Addr × Obj)} {σ : L2.St} {H : Hp} {s : Shared} {C fI : Addr} {name qual : Str} {params : Arguments} {body : List Stmt} {scope : Scope} {fd : FuncData} {cc : Addr} {cdv : Value}
theorem boot_super : bootBuiltins "super" = some (.type "super") := by first | rfl | kernel_rfl
/-- super().__init__(e): nothing of it is told -/
theorem super_ok {L a : Addr} {ar : Arg} {e : Expr} {p0 p1 p2 p3 : Pos} {te : TE} {pl : Sem Bool} {Q : Value → Shared → Prop} {E : Value → Shared → Prop}
    (T : IniF X.prog X.K X.mg C fI name qual params body scope fd cc cdv) (hX : X.env = envI qual scope L fI cdv cc) (hA : X.env.kindOf ("super" : Str) = some .globalImplicit) (hcl : X.env.kindOf ("__class__" : Str) = some .free) (hpar : (params.posonlyargs ++ params.args).head? = some ar)
    (hself : X.N[0]? = some ar.arg) (hloc : X.env.kindOf ar.arg = some .local) (I : Inv X pins σ H s) (hσ : σ[0]? = some (some (V.ref a))) (ha : H a = some (exo a C none)) (pe : PE X e te) (hte : ∀ Q : VK, (∀ v, Q v H) → te σ H Q)
    (hq : ∀ s', Inv X pins σ H s' → Q .none s') (hE : E = X.xe)
    (hev : eval (.Call (.Attribute (.Call (.Name "super" p0) [] [] p1) "__init__" p2) [e] [] p3) X.env = (do
      let ov ← attributeBase (.Call (.Name "super" p0) [] [] p1) "__init__" X.env (eval (.Call (.Name "super" p0) [] [] p1) X.env)
      standAt p2.atName
      let (f, first) ← holding [ov] (getMethod ov "__init__" pl)
      callWith p3 f first (backTo p3 (starEach [e] X.env)) []))
    (he : starEach [e] X.env = (false, eval e X.env) :: starEach [] X.env) (hpl : (backTo p3 (starEach [] X.env)).any (·.1) = false) :
    _root_.PySem.wpAt (model X.prog X.w) X.A (.func body X.env) (eval (.Call (.Attribute (.Call (.Name "super" p0) [] [] p1) "__init__" p2) [e] [] p3) X.env) Q E s := by
  subst hE
  obtain ⟨nm, q, N, bs, bm, sn, sub, ab, col, dd, k0, k1, k2, k3, k5, hC, hbm⟩ := T.oex.cls
  obtain ⟨dV, kV, doc, pm, an, ct, oc, od, osl, rfl, lk⟩ := T.fn
  obtain ⟨cda, ccl, cdd, vs, ccs, file, tf, rfl, lkc, hvs, hfile⟩ := T.codeO
  obtain ⟨cl, cld, csl, lkcell⟩ := T.cell
  obtain ⟨cd, cdT, TT, hcd, hcdT, hmro, hfind⟩ := T.sup
  refine ks_wpAt_MethodCall (pl := pl) ?_ hev
  refine ks_wpAt_super_base (env := X.env) hA hcl rfl (by rw [hX]) (I.kIn _ _ lk) rfl hpar (by rw [hX]) (I.kIn _ _ lkc) rfl hvs hfile T.top ?_
  obtain ⟨mb, h1, h2⟩ := I.mod.blt
  refine ks_loadName_global I.ok.kind hA (PySem.Calls.loadGlobal_builtin (by rw [I.ok.glob]; exact I.mod.glob.keeps I.bk) T.nsup (by rw [I.ok.blt]; exact h1.keeps I.bk) ((h2 "super" (by decide)).trans boot_super) ⟨rfl, ?_⟩)
  refine wpAny_loadName_free I.ok.kind hcl (by rw [hX]; rfl) ⟨_, I.kIn _ _ lkcell, rfl⟩ ?_
  obtain ⟨m, hn, hlk⟩ := I.loc
  obtain ⟨u, ru, look⟩ := hlk 0 ar.arg (.ref a) hself hσ (.inl hloc)
  obtain rfl : u = Value.ref a := ru
  have hm : m ar.arg = some (Value.ref a) := by
    rcases look with ⟨_, z⟩ | ⟨z, _⟩
    · exact z
    · rw [hloc] at z
      rcases z with z | z <;> cases z
  refine wpAny_loadName_local I.ok.kind hloc hn hm ?_
  obtain ⟨t1, hae⟩ := exo_at I.hok ha
  have fr : ∀ {b : Addr} {s1 : Shared}, Inv X pins σ H s1 → b ∈ X.fs → ∃ o, s1.heap.get? b = some o := fun {b s1} J hb => by
    obtain ⟨_, o, ho, _⟩ := J.ok.funs.mem hb
    exact J.base.there b o ho (fun z => J.ok.exfs b z hb)
  obtain ⟨hh, g, d, t, os⟩ := s
  refine ks_wpAny_isType_cls (I.kIn _ _ hC) rfl ⟨rfl, ?_⟩
  have hsub : mroIn X.K C (.ref C) = some true := by
    unfold mroIn
    rw [hcd, Option.bind_some, hmro]
    simp
  refine ks_wpAny_call_super (I.kIn _ _ hC) rfl hae rfl (fun c z => by cases z) (looks_mroIn I.kIn hsub) (fun h' hso k => ?_)
  have I1 : Inv X pins σ H ⟨h', g, d, t, os⟩ := I.kept (t' := t) k
  obtain ⟨t2, hae1⟩ := exo_at I1.hok ha
  have IA : InstAt h' a ({ cls := .ref C, dict := none, data := .fields #[.ref t2, .none, .none, .none, .bool false, .none] } : Obj) C none := ⟨hae1, rfl, rfl, trivial⟩
  refine kxs_getMethod kxs_ValueError hso (looks_opaque I1.kIn T.opq) (l₀ := cd.mro) (fun A Q E s k q => wpAny_bind ((looks_clsIn I1.kIn hcd) A _ E s k (wpAny_pure q))) (l := cdT.mro) (by rw [hmro]; exact ESX.drop_own _ _) I1.kIn ?_ (IA.type.andThen (looks_subIn I1.kIn T.subV)) (ks_ne I1.kIn IA hcd) (by decide) ?_
  · unfold findIn at hfind
    unfold clsIn at hcdT
    split at hcdT
    · rename_i c' d' cd' sl' ho
      cases hcdT
      dsimp only at hfind
      rw [ho] at hfind
      exact hfind
    · cases hcdT
  have kp : ∀ b o, h'.get? b = some o → (h'.push (kxs_mw "ValueError.__init__" a)).get? b = some o := fun b o e => Heap.get?_push_of_some _ e
  have I2 : Inv X pins σ H ⟨h'.push (kxs_mw "ValueError.__init__" a), g, d, t + 1, os⟩ := I1.kept (t' := t + 1) kp
  have hu : (h'.push (kxs_mw "ValueError.__init__" a)).get? h'.objs.size = some (kxs_mw "ValueError.__init__" a) := Heap.get?_push_at rfl rfl
  have I3 : Inv X ((h'.objs.size, kxs_mw "ValueError.__init__" a) :: pins) σ H ⟨h'.push (kxs_mw "ValueError.__init__" a), g, d, t + 1, os⟩ := I2.pins_of fun p hp => by
    rcases List.mem_cons.mp hp with rfl | hp
    · refine ⟨hu, I1.hok.fresh (Nat.le_refl _), fun z => ?_, fun z => ?_, fun v z => by cases z⟩
      · obtain ⟨_, ⟨oL, _, _, hoL, _⟩, _⟩ := I1.loc
        have := Heap.lt_size (show h'.get? X.env.locals = some oL from hoL)
        have z' : h'.objs.size = X.env.locals := z
        rw [← z'] at this
        exact Nat.lt_irrefl _ this
      · obtain ⟨o, ho⟩ := fr I1 z
        exact absurd (Heap.lt_size (show h'.get? h'.objs.size = some o from ho)) (Nat.lt_irrefl _)
    · exact I2.pin p (List.mem_append_right _ hp)
  show wpAny _ X.A (callWith p3 (.ref h'.objs.size) [] (backTo p3 (starEach [e] X.env)) []) Q X.xe _
  have pa := pa_cons pe pa_nil he
  refine kxs_callWith (i := "ValueError.__init__") (x := a) (by rw [he]; show (false || (backTo p3 (starEach [] X.env)).any (·.1)) = false; rw [hpl]; rfl) ?_
  have run := pa.run p3 ((h'.objs.size, kxs_mw "ValueError.__init__" a) :: pins) _ σ H (fun vs H1 => vs.length = 1 ∧ H1 = H) I3 (hte _ fun v => ⟨rfl, rfl⟩)
  rw [he] at run ⊢
  refine PySem.Calls.evalArgs_plain (wpAny_mono run (fun us s1 hs => ?_) fun _ _ z => z)
  obtain ⟨ws, H1, J1, r1, hlen, rfl⟩ := hs
  obtain ⟨hu1, _⟩ := J1.pin (h'.objs.size, kxs_mw "ValueError.__init__" a) (List.mem_append_right _ List.mem_cons_self)
  refine ⟨hu1, ?_⟩
  obtain ⟨t3, hae3⟩ := exo_at J1.hok ha
  have J2 : Inv X pins σ H1 s1 := J1.pins_of fun p hp => J1.pin p (List.mem_append_right _ (List.mem_cons_of_mem _ hp))
  obtain ⟨hp1, g1, d1, t4, os1⟩ := s1
  refine call_mw (J2.kIn _ _ hC) hae3 hu1 (by show us.length ≤ sizeLine; rw [← Paired.length r1, hlen, sizeLine_eq]; omega) (fun h2 t5 k2 hx => ?_)
  have J := J2.write (t' := t4) (x := a) (e := a) (o := exo a C none) (by rw [ha]; exact True.intro) (.inl rfl) k2 ⟨_, hx⟩ (exo_ok hx)
  have eu : upd H1 a (exo a C none) = H1 := by
    funext b
    by_cases hb : b = a
    · rw [hb, upd_same, ha]
    · rw [upd_ne hb]
  rw [eu] at J
  exact hq _ J
end
section
variable {P : Program} {w : World} {K : PySem.W.Frag} {mg : Str → Option Value} {base : Heap} {C fI : Addr} {name qual : Str} {params : Arguments} {scope : Scope} {fd : FuncData} {cc : Addr} {cdv : Value}
/-- an own class's __init__ keeps its promise: the fields, by the reading t -/
def spI (C : Addr) (N ps : List Str) (t : TS) : Sp := fun vs H Q E => vs.length = ps.length ∧ ∃ (a : Addr) (ws : List V), vs = .ref a :: ws ∧ H a = some (exo a C none) ∧ t { nx := fun _ H' => Q .non H', rt := Q } (L2.start N vs) H
theorem init_ok {N ps : List Str} {k : Nat} {ar : Arg} {e : Expr} {p0 p1 p2 p3 p4 : Pos} {pl : Addr → Sem Bool} {rest : List Stmt} {t : TS} (S : IniS N ps scope)
    (T : IniF P K mg C fI name qual params (.Expr (.Call (.Attribute (.Call (.Name "super" p0) [] [] p1) "__init__" p2) [e] [] p3) p4 :: rest) scope fd cc cdv) (hpar : (params.posonlyargs ++ params.args).head? = some ar) (hself : ps[0]? = some ar.arg)
    (hev : ∀ L, eval (.Call (.Attribute (.Call (.Name "super" p0) [] [] p1) "__init__" p2) [e] [] p3) (envI qual scope L fI cdv cc) = (do
      let ov ← attributeBase (.Call (.Name "super" p0) [] [] p1) "__init__" (envI qual scope L fI cdv cc) (eval (.Call (.Name "super" p0) [] [] p1) (envI qual scope L fI cdv cc))
      standAt p2.atName
      let (f, first) ← holding [ov] (getMethod ov "__init__" (pl L))
      callWith p3 f first (backTo p3 (starEach [e] (envI qual scope L fI cdv cc))) []))
    (he : ∀ L, starEach [e] (envI qual scope L fI cdv cc) = (false, eval e (envI qual scope L fI cdv cc)) :: starEach [] (envI qual scope L fI cdv cc)) (hpl : ∀ L, (backTo p3 (starEach [] (envI qual scope L fI cdv cc))).any (·.1) = false)
    (hin : ∀ L, interactive (envI qual scope L fI cdv cc) = false) (hsw : ∀ L, swapsWith (.Call (.Attribute (.Call (.Name "super" p0) [] [] p1) "__init__" p2) [e] [] p3) none p4.line (envI qual scope L fI cdv cc) = pure false)
    (hbody : ∀ (A : Around) (outer : List PySem.Env) (s : Shared) (H : Hp) (E : XK) (vs : List V), vs.length = ps.length → (∃ te, PE (cxI (L2.CX P w) P w K mg base N qual scope fI cdv cc A outer s H E) e te ∧ ∀ Q : VK, (∀ v, Q v H) → te (L2.start N vs) H Q) ∧ PSs (cxI (L2.CX P w) P w K mg base N qual scope fI cdv cc A outer s H E) rest t) :
    FnOk P w K mg base (L2.CX P w) (k + 1) fI fd ps (spI C N ps t) := by
  refine ⟨fun vs H Q E h => h.1, fun A outer s H args us vs Q E hr e0 hb r hsp => ?_⟩
  obtain ⟨hl, a, ws, rfl, ha, ht⟩ := hsp
  have KX : K.In s.heap := e0.mod.kin.keeps fun b o e => (e0.bs b o e).1
  have lim : s.heap.NoLimit := e0.mod.nolimit.keeps fun b o e => (e0.bs b o e).1
  obtain ⟨dV, kV, doc, pm, an, ct, oc, od, osl, hfd, lk⟩ := id T.fn
  obtain ⟨cl, cld, csl, lkcell⟩ := T.cell
  have hl1 : us.length = ps.length := by rw [← Paired.length r, hl]
  subst hfd
  refine PySem.ks_codeAny_call_defAt (binds := ps.zip us) hr.depth (KX _ _ lk) rfl lim (PySem.W.codeRec_of KX T.code) rfl hb S.nocell (fun x hx => S.par _ (List.of_mem_zip hx).1) (fun h₀ ns hk => ?_) S.co S.gen S.kind
  have I := invI (CX := L2.CX P w) (w := w) (N := N) (qual := qual) (f := fI) (cd := cdv) (E := E) (t' := s.toks + (ps.zip us).length) S hr.hd e0 hl r ⟨_, lkcell, rfl⟩ ns hk
  obtain ⟨⟨te, pe, hte⟩, prest⟩ := hbody A outer s H E _ hl
  have hN0 : N[0]? = some ar.arg := by
    have hp : 0 < ps.length := by
      cases hps : ps with
      | nil => rw [hps] at hself; cases hself
      | cons _ _ => simp
    rw [← hself, ← S.pre, List.getElem?_take_of_lt hp]
  refine PySem.ks_wpAt_execs_cons (PySem.ks_wpAt_Expr_any ?_ (hin _) (hsw _))
  refine super_ok (X := cxI (L2.CX P w) P w K mg base N qual scope fI cdv cc A outer s H E) (pl := pl s.heap.objs.size) T rfl S.sup S.cls hpar hN0 (S.par _ (List.mem_of_getElem? hself)) I rfl ha pe hte (fun s' J => ?_) rfl (hev _) (he _) (hpl _)
  refine PySem.wpAt_of_wpAny (wpAny_mono (prest.run [] s' _ H _ J ht) (fun fl s2 hs => ?_) fun e s2 hs => hs)
  have fin : ∀ {σ' : L2.St} {H' : Hp} {v : V} {u : Value}, Inv (cxI (L2.CX P w) P w K mg base N qual scope fI cdv cc A outer s H E) [] σ' H' s2 → RelV v u → Q v H' → CE outer P w H s Q u s2 :=
    fun {σ' H' v u} J rv q => ⟨v, H', J.os, J.bare, J.base, J.hok, rv, q⟩
  cases fl with
  | ret u =>
    obtain ⟨v, σ', H', J, rv, q⟩ := hs
    exact fin J rv q
  | next =>
    obtain ⟨σ', H', J, q⟩ := hs
    exact fin (v := V.non) (u := Value.none) J rfl q
  | brk =>
    obtain ⟨_, _, _, q⟩ := hs
    exact False.elim q
  | cont =>
    obtain ⟨_, _, _, q⟩ := hs
    exact False.elim q
end
end VL

namespace VL
open PySem PySem.Spec PyProof.Rows L2

/-! ## raise C(e, ..) -/
def fldD (flds : List (Str × Nat)) (ds : List PyData) : Option (List (Str × PyData)) := flds.mapM fun p => (ds[p.2]?).map fun d => (p.1, d)
def fldV (flds : List (Str × Nat)) (ws : List V) : Option (List (Str × V)) := flds.mapM fun p => (ws[p.2]?).map fun d => (p.1, d)
theorem fld_kd {K : PySem.W.Frag} {F : Hp} : ∀ {flds : List (Str × Nat)} {ws : List V} {ds : List PyData} {fs : List (Str × PyData)}, DqA K F ws ds → fldD flds ds = some fs → ∃ xs, fldV flds ws = some xs ∧ KD K F xs fs
  | [], _, _, _, _, h => by
    cases h
    exact ⟨[], rfl, .nil⟩
  | (f, i) :: flds, ws, ds, fs, q, h => by
    unfold fldD at h
    rw [List.mapM_cons] at h
    cases e : ds[i]? with
    | none => rw [e] at h; cases h
    | some d =>
      rw [e] at h
      cases e2 : fldD flds ds with
      | none =>
        unfold fldD at e2
        rw [e2] at h; cases h
      | some r =>
        obtain ⟨xs, h1, h2⟩ := fld_kd q e2
        unfold fldD at e2
        rw [e2] at h
        cases h
        have go : ∀ {ws : List V} {ds : List PyData} {i : Nat}, DqA K F ws ds → ds[i]? = some d → ∃ v, ws[i]? = some v ∧ Dq K F v d := by
          intro ws ds i q
          induction ws generalizing ds i with
          | nil => cases q; intro z; simp at z
          | cons w ws ih =>
            cases q with
            | cons q1 q2 =>
              intro z
              cases i with
              | zero => simp at z; subst z; exact ⟨w, rfl, q1⟩
              | succ i => obtain ⟨v, a, b⟩ := ih (i := i) q2 (by simpa using z); exact ⟨v, by simpa using a, b⟩
        obtain ⟨v, a, b⟩ := go q e
        refine ⟨(f, v) :: xs, ?_, .cons ⟨rfl, b⟩ h2⟩
        unfold fldV at h1 ⊢
        rw [List.mapM_cons, a]
        simp only [Option.map_some, Option.pure_def, Option.bind_eq_bind, Option.bind_some, h1]
theorem outA {K : PySem.W.Frag} {ca : CA} {W : WX} {B : Base} {F H : Hp} {env : VEnv} {σ : L2.St} {t : TA} {f : VEnv → Rs (List RV)} {Q : List V → Hp → Prop} {D : Ends} {k : List RV → Out} (s : SndA K ca W t f) (st : StOk K ca B F env σ H)
    (post : PostS K ca W B F D ((f env).out env k)) (h : ∀ r F1 H1 vs, PostS K ca W B F1 D (k r) → Grow F H F1 H1 → Paired (fun v r => RVok K H F1 H1 v r) vs r → Q vs H1) : t σ H Q := by
  refine s B F env σ H Q st ?_
  cases e : f env with
  | ok r => rw [e] at post; exact fun F' H' v g q => h r F' H' v (PostS.mono g.ff post) g q
  | ex c fs => rw [e] at post; exact exOut st post
  | no => rw [e] at post; exact post
/-- what the reading of an __init__ comes to -/
def IniT (C : Addr) (n : Nat) (flds : List (Str × Nat)) (t : List V → VK → Hp → Prop) : Prop :=
  ∀ (a : Addr) (ws : List V) (xs : List (Str × V)) (H : Hp) (Q : VK), ws.length = n → fldV flds ws = some xs → H a = some (exo a C none) →
    (∀ d H2, H d = none → d ≠ a → H2 a = some (exo a C (some d)) → H2 d = some (exd d xs) → (∀ b, b ≠ a → b ≠ d → H2 b = H b) → Q .non H2) → t (.ref a :: ws) Q H
def sRaise (c n : Nat) (flds : List (Str × Nat)) (fa : VEnv → Rs (List RV)) : VEnv → Out := fun env => (fa env).out env fun rs => (rsO ((allD rs).bind (fldD flds))).out env fun fs => if rs.length = n ∧ n ≤ 900 then .ex c fs env else .no
section
variable {ca : CA} {W : WX} {X : Cx} {e : Expr} {es : List Expr} {fa : VEnv → Rs (List RV)} {pos p p1 : Pos}
theorem vs_raise {c n k : Nat} {flds : List (Str × Nat)} {x : Str} {fI : Addr} {fd : FuncData} {N ps : List Str} {t : TS} (T : OexC X.K (ca c)) (iC : PySem.W.findIn X.K (.ref (ca c)) "__init__" = some (some (.ref fI))) (tI : PySem.W.typeIn X.K (.ref fI) = some (.type "function"))
    (F1 : FnOk X.prog X.w X.K X.mg X.base (L2.CX X.prog X.w) k fI fd ps (spI (ca c) N ps t)) (hn : ps.length = n + 1) (ht : IniT (ca c) n flds (fun vs Q H => t { nx := fun _ H' => Q .non H', rt := Q } (L2.start N vs) H)) (hr : Room (k + 1) X.A) (hb : Binds X.K fd ps [])
    (tk : Takes X W) (hc : X.calm = true) (hg : Gl X x) (hm : X.mg x = some (.ref (ca c))) (ha : VA ca W X (e :: es) fa)
    (hdb : (x == ("__debug__" : Str)) = false := by decide) (he : starEach (e :: es) X.env = (false, eval e X.env) :: starEach es X.env := by rfl) (hpl : (backTo p (starEach es X.env)).any (·.1) = false := by rfl) :
    VS ca W X (.Raise (some (.Call (.Name x p1) (e :: es) [] p)) none pos) (sRaise c n flds fa) := by
  obtain ⟨ta, pa, sa⟩ := ha
  refine ⟨_, ps_raise hc tk (pmk_oex (ds := []) (dvs := []) T iC tI F1 hr hb .nil (passes_call tk fun _ _ _ _ z => z.elim) hg hm pa hdb he hpl), fun B F env σ H D st q => ?_⟩
  show ta σ H fun vs H1 => vs.length ≤ 1000 ∧ ∀ a, H1 a = none → spI (ca c) N ps t (.ref a :: (vs ++ [])) (upd H1 a (exo a (ca c) none))
    (fun v H2 => v = .non ∧ ∃ (d : Addr) (fs : List (Str × V)), H2 a = some (exo a (ca c) (some d)) ∧ H2 d = some (exd d fs) ∧ H1 d = none ∧ W (.ref (ca c)) (some d) σ (upd (del H2 a) d (.xd fs))) (fun _ _ _ => False)
  refine outA sa st q fun rs F1 H1 vs q1 g1 pr => ?_
  cases e1 : allD rs with
  | none => rw [e1] at q1; exact q1.elim
  | some ds =>
    rw [e1] at q1
    cases e2 : fldD flds ds with
    | none => simp only [Option.bind_some, e2, rsO_none, Rs.out_no] at q1; exact q1.elim
    | some fs =>
      simp only [Option.bind_some, e2, rsO_some, Rs.out_ok] at q1
      split at q1
      · rename_i hln
        obtain ⟨F2, g2, s2, q2⟩ := frzs g1 (Fz.ofs pr e1)
        obtain ⟨xs, hx, kd⟩ := fld_kd q2 e2
        have hvl : vs.length = n := by rw [Paired.length pr]; exact hln.1
        refine ⟨by omega, fun a na => ⟨by rw [List.append_nil]; simp [hvl, hn], a, vs ++ [], rfl, upd_same, ?_⟩⟩
        rw [List.append_nil]
        refine ht a vs xs (upd H1 a (exo a (ca c) none)) (fun v H2 => v = .non ∧ ∃ (d : Addr) (fs : List (Str × V)), H2 a = some (exo a (ca c) (some d)) ∧ H2 d = some (exd d fs) ∧ H1 d = none ∧ W (.ref (ca c)) (some d) σ (upd (del H2 a) d (.xd fs))) hvl hx upd_same (fun d H2 nd nda ea ed rest => ⟨rfl, d, xs, ea, ed, ?_, ?_⟩)
        · rw [upd_ne nda] at nd; exact nd
        · have nd1 : H1 d = none := by rw [upd_ne nda] at nd; exact nd
          have eH : upd (del H2 a) d (.xd xs) = upd H1 d (.xd xs) := by
            funext b
            by_cases hbd : b = d
            · rw [hbd, upd_same, upd_same]
            · rw [upd_ne hbd, upd_ne hbd]
              by_cases hba : b = a
              · rw [hba, del_same, na]
              · rw [del_ne hba, rest b hba hbd, upd_ne hba]
          rw [eH]
          have g3 := Grow.newO g2.cfg (.xd xs) nd1 (fun _ z => by cases z)
          exact q1 F2 σ _ (.ref (ca c)) (some d) s2 (st.grow (g2.trans g3)) ⟨rfl, d, xs, rfl, upd_same, kd⟩
      · exact q1.elim
end

/-! ## try: body / except C as n: suite -/
def Out.clr (i : Nat) : Out → Out
  | .nx env => .nx (env.set i none)
  | .bk env => .bk (env.set i none)
  | .ct env => .ct (env.set i none)
  | .rt r => .rt r
  | .rm o d => .rm o d
  | _ => .no
open Classical in
noncomputable def oneOut (f : Addr → Addr → Out) : Out := if h : ∃ o, ∀ a dd, f a dd = o then Classical.choose h else .no
theorem oneOut_eq {f : Addr → Addr → Out} {o : Out} (h : ∀ a dd, f a dd = o) : oneOut f = o := by
  unfold oneOut
  rw [dif_pos ⟨o, h⟩]
  have z := Classical.choose_spec (⟨o, h⟩ : ∃ o, ∀ a dd, f a dd = o)
  exact (z 0 0).symm.trans (h 0 0)
theorem oneOut_at {f : Addr → Addr → Out} (h : oneOut f ≠ .no) (a dd : Addr) : f a dd = oneOut f := by
  unfold oneOut at h ⊢
  split at h
  · rename_i z
    rw [dif_pos z]
    exact Classical.choose_spec z a dd
  · exact absurd rfl h
noncomputable def sTry (mt : Nat → Option Bool) (i : Nat) (body : VEnv → Out) (suite : Addr → Addr → Nat → VEnv → Out) : VEnv → Out := fun env => match body env with
  | .ex c fs env' => (match mt c with
    | some true => if i < env'.length then oneOut fun a dd => (suite a dd c (env'.set i (some (.xo a dd c fs)))).clr i else .no
    | some false => .ex c fs env'
    | none => .no)
  | o => o
def tUS (K : PySem.W.Frag) (ca : CA) (W : WX) (f : VEnv → Out) : TS := fun D σ H => ∃ B F env, StOk K ca B F env σ H ∧ PostS K ca W B F D (f env)
theorem VSs.pss {ca : CA} {W : WX} {X : Cx} {st : List Stmt} {f : VEnv → Out} (h : VSs ca W X st f) : PSs X st (tUS X.K ca W f) := by
  obtain ⟨t, p, s⟩ := h
  exact ⟨fun pins sh σ H D I q => by
    obtain ⟨B, F, env, so, post⟩ := q
    exact p.run pins sh σ H D I (s B F env σ H D so post)⟩
def wNo : WX := fun _ _ _ _ => False
theorem takes_no {X : Cx} : Takes X wNo := fun _ _ ⟨_, _, _, _, _, _, _, _, _, _, _, _, _, _, _, _, z⟩ => z.elim
section
variable {ca : CA} {Wout : WX} {X : Cx} {x n : Str} {C : Value} {i : Nat} {body suite : List Stmt} {b₀ : Stmt} {np pos pos' : Pos}
theorem vs_try {mt : Nat → Option Bool} {fb : VEnv → Out} {fs : Addr → Addr → Nat → VEnv → Out} (hs : X.stack = X.env :: X.outer) (hf : X.env.frame = some X.env.locals) (hN : X.N.Nodup) (hi : X.N[i]? = some n) (hln : X.env.kindOf n = some .local) (hc : Names X x C) (tk : Takes X Wout)
    (hm : ∀ c b, mt c = some b → PySem.W.exmOne X.K (.ref (ca c)) C = some b)
    (hb : ∀ (W : WX) (pn : List (Addr × Obj)) (xe : Value → Shared → Prop), Takes (X.tr pn xe) W → PassesOwn (model X.prog X.w) X.A X.env xe → VSs ca W (X.tr pn xe) body fb)
    (hsu : ∀ (a dd : Addr) (c : Nat) (oe : Obj) (pn : List (Addr × Obj)), Zc (.ref (ca c)) (some dd) oe → (∃ vs, oe.data = .fields vs) → VSs ca wNo (X.suite a ((a, oe) :: pn)) (b₀ :: suite) (fs a dd c)) :
    VS ca Wout X (.Try body [.ExceptHandler (some (.Name x np)) (some n) (b₀ :: suite) pos'] [] [] pos) (sTry mt i fb fs) := by
  refine ⟨_, ps_try_as (tb := fun W => tUS X.K ca W fb) (ts := fun a cls d D σ H => ∃ c dd, cls = .ref (ca c) ∧ d = some dd ∧ tUS X.K ca wNo (fs a dd c) D σ H) hs hf hN hi hln hc tk (fun W pn xe t p => (hb W pn xe t p).pss) (fun a oe cls d pn hz hd => ⟨fun pins s σ H D I q => ?_⟩), fun B F env σ H D st q => ?_⟩
  · obtain ⟨c, dd, rfl, rfl, q⟩ := q
    exact (hsu a dd c oe pn hz hd).pss.run pins s σ H D I q
  · refine ⟨B, F, env, st, ?_⟩
    unfold sTry at q
    cases e : fb env with
    | nx env' => rw [e] at q; exact q
    | bk env' => rw [e] at q; exact q
    | ct env' => rw [e] at q; exact q
    | rt r => rw [e] at q; exact q
    | rm o d => rw [e] at q; exact q
    | no => rw [e] at q; exact q
    | ex c fl env' =>
      rw [e] at q
      dsimp only at q
      intro F1 σ1 H1 cls dx s1 st1 xo
      obtain ⟨rfl, dd, xs, rfl, hdd, kd⟩ := xo
      cases em : mt c with
      | none => rw [em] at q; exact q.elim
      | some b =>
        rw [em] at q
        refine ⟨b, hm c b em, fun hb1 a na => ?_, fun hb1 => ?_⟩
        · subst hb1
          dsimp only at q
          split at q
          · rename_i hlt
            refine ⟨c, dd, rfl, rfl, B, F1, _, st1.put0 hlt (r := .xo a dd c fl) ⟨rfl, xs, hdd, kd⟩ rfl rfl, ?_⟩
            have q1 : PostS X.K ca Wout B F1 D ((fs a dd c (env'.set i (some (.xo a dd c fl)))).clr i) := by
              have hno : oneOut (fun a dd => (fs a dd c (env'.set i (some (.xo a dd c fl)))).clr i) ≠ .no := fun z => by rw [z] at q; exact q
              have := oneOut_at hno a dd
              rw [this]
              exact PostS.mono s1 q
            generalize fs a dd c (env'.set i (some (.xo a dd c fl))) = o at q1 ⊢
            cases o with
            | nx e2 => exact fun F2 σ2 H2 s2 st2 => q1 F2 _ H2 s2 (st2.drop i)
            | bk e2 => exact fun F2 σ2 H2 s2 st2 => q1 F2 _ H2 s2 (st2.drop i)
            | ct e2 => exact fun F2 σ2 H2 s2 st2 => q1 F2 _ H2 s2 (st2.drop i)
            | rt r => exact q1
            | rm o d => exact q1
            | ex c2 f2 e2 => exact q1.elim
            | no => exact q1.elim
          · exact q.elim
        · subst hb1
          exact q F1 σ1 H1 _ _ s1 st1 ⟨rfl, dd, xs, rfl, hdd, kd⟩
end
section
variable {ca : CA} {W : WX} {X : Cx}
/-- e.f, e the exception that the suite holds -/
def cXf (a dd c : Nat) (cs : Nat → Bool) (i : Nat) (f : Str) : VEnv → Rs RV := fun env => match env[i]? with
  | some (some (.xo a' dd' c' fs)) => if a' = a ∧ dd' = dd ∧ c' = c ∧ cs c = true then (rsO (fs.lookup f)).bind fun d => .ok (.d d) else .no
  | _ => .no
theorem kd_lookup {K : PySem.W.Frag} {F : Hp} {f : Str} {d : PyData} : ∀ {xs : List (Str × V)} {fs : List (Str × PyData)}, KD K F xs fs → fs.lookup f = some d → ∃ v, xs.lookup f = some v ∧ Dq K F v d
  | _, _, .nil, h => by cases h
  | (k, v) :: xs, (k', d') :: fs, .cons h1 h2, h => by
    obtain ⟨e, q⟩ := h1
    have e' : k = k' := e
    subst e'
    by_cases z : f = k
    · subst z
      simp [List.lookup] at h
      subst h
      exact ⟨v, by simp [List.lookup], q⟩
    · have z' : (f == k) = false := by simpa using z
      simp only [List.lookup, z'] at h ⊢
      exact kd_lookup h2 h
theorem ve_xf {a dd c i : Nat} {cs : Nat → Bool} {oe : Obj} {pn : List (Addr × Obj)} {f x : Str} {p pos : Pos} (T : ∀ c, cs c = true → XfC X.K (ca c) ∧ PySem.W.findIn X.K (.ref (ca c)) f = some none) (hz : Zc (.ref (ca c)) (some dd) oe) (hf : ∃ vs, oe.data = .fields vs)
    (hN : X.N[i]? = some x) (hv : Vis X.env.scope x) (hd : (x == ("__debug__" : Str)) = false := by decide) (hcd : (x == ("__classdict__" : Str)) = false := by decide) (hb : ∀ env, attributeBase (.Name x p) f env (eval (.Name x p) env) = eval (.Name x p) env := by intro _; rfl) :
    VE ca W (X.suite a ((a, oe) :: pn)) (.Attribute (.Name x p) f pos) (cXf a dd c cs i f) := by
  by_cases hc : cs c = true
  · obtain ⟨T1, T2⟩ := T c hc
    refine ⟨_, pe_xf T1 T2 hz hf (pe_var (X := X.suite a ((a, oe) :: pn)) hN hv hd hcd) (hb _), fun B F env σ H Q st q => ?_⟩
    unfold cXf at q
    split at q
    · rename_i a' dd' c' fs e
      obtain ⟨v, ev, h⟩ := st.sl i _ e
      obtain ⟨rfl, xs, hdd, kd⟩ := h
      split at q
      · rename_i hcond
        obtain ⟨rfl, rfl, rfl, _⟩ := hcond
        cases el : fs.lookup f with
        | none => rw [el] at q; exact q.elim
        | some d =>
          rw [el] at q
          obtain ⟨u, hu, dq⟩ := kd_lookup kd el
          exact ⟨_, ev, rfl, rfl, dd', xs, u, rfl, hdd, hu, q F H u (Grow.refl st.cfg) dq⟩
      · exact q.elim
    · exact q.elim
  · refine ⟨fun _ _ _ => False, ⟨fun _ _ _ _ _ _ h => h.elim⟩, fun B F env σ H Q st q => ?_⟩
    unfold cXf at q
    split at q
    · rw [if_neg (fun z => hc z.2.2.2)] at q
      exact q.elim
    · exact q.elim
end
end VL

namespace VL
open PySem PySem.Spec PyProof.Rows L2
theorem start_at {N : List Str} {vs : List V} {i : Nat} {v : V} (h : vs[i]? = some v) : (L2.start N vs)[i]? = some (some v) := by
  unfold L2.start
  have hi : i < vs.length := (List.getElem?_eq_some_iff.mp h).1
  rw [List.getElem?_append_left (by simpa using hi), List.getElem?_map, h]
  rfl
theorem te_var {N : List Str} {vs : List V} {k : Nat} {H : Hp} (h : k < vs.length) (Q : VK) (hQ : ∀ v, Q v H) : tVar k (L2.start N vs) H Q :=
  ⟨vs[k], start_at (by rw [List.getElem?_eq_getElem h]), hQ _⟩
def clsBody (s : Stmt) : List Stmt := match s with
  | .ClassDef _ _ _ b _ _ _ _ _ _ _ => b
  | _ => []
theorem exm_mk {K : PySem.W.Frag} {C : Addr} {cls : Value} {b : Bool} (h1 : PySem.W.subIn K (.ref C) (.type "BaseException") = some true) (hdct : PySem.W.hasDictIn K C = true) (ht : PySem.W.typeIn K (.ref C) = some (.type "type")) (h4 : PySem.W.subIn K cls (.ref C) = some b) : PySem.W.exmOne K cls (.ref C) = some b := by
  obtain ⟨cd, hc, _⟩ := PySem.W.any_some hdct
  have e1 : (PySem.W.subIn K (.ref C) (.type "BaseException") == some true) = true := by rw [h1] <;> rfl
  have e2 : ((PySem.W.clsIn K C).isSome && PySem.W.typeIn K (.ref C) == some (.type "type")) = true := by rw [hc, ht] <;> rfl
  show (if (PySem.W.subIn K (.ref C) (.type "BaseException") == some true) = true then (if ((PySem.W.clsIn K C).isSome && PySem.W.typeIn K (.ref C) == some (.type "type")) = true then PySem.W.subIn K cls (.ref C) else none) else none) = some b
  rw [if_pos e1, if_pos e2]
  exact h4
section
variable {K : PySem.W.Frag} {C : Addr} {N : List Str} {f1 f2 : Str} {i j n : Nat}
theorem ini1 (T : OexC K C) (n1 : PySem.W.findIn K (.ref C) f1 = some none) : IniT C n [(f1, i)] (fun vs Q H => (tOst K f1 (tVar 0) (tVar (i + 1))) { nx := fun _ H' => Q .non H', rt := Q } (L2.start N vs) H) := by
  intro a ws xs H Q hl hx ha h
  cases e1 : ws[i]? with
  | none => unfold fldV at hx; simp [e1] at hx
  | some v1 =>
    have ex : xs = [(f1, v1)] := by unfold fldV at hx; simp [e1] at hx; exact hx.symm
    subst ex
    refine ⟨v1, start_at (by simpa using e1), .ref a, start_at rfl, a, C, rfl, T, n1, .inl ⟨ha, fun dx nd ne => ?_⟩⟩
    refine h dx _ nd ne upd_same (by rw [upd_ne ne, upd_same]) fun b h1 h2 => ?_
    rw [upd_ne h1, upd_ne h2]
theorem ini2 (T : OexC K C) (n1 : PySem.W.findIn K (.ref C) f1 = some none) (n2 : PySem.W.findIn K (.ref C) f2 = some none) : IniT C n [(f2, j), (f1, i)] (fun vs Q H => (tSeq (tOst K f1 (tVar 0) (tVar (i + 1))) (tOst K f2 (tVar 0) (tVar (j + 1)))) { nx := fun _ H' => Q .non H', rt := Q } (L2.start N vs) H) := by
  intro a ws xs H Q hl hx ha h
  cases e1 : ws[i]? with
  | none => unfold fldV at hx; cases e2 : ws[j]? <;> simp [e1, e2] at hx
  | some v1 =>
    cases e2 : ws[j]? with
    | none => unfold fldV at hx; simp [e1, e2] at hx
    | some v2 =>
      have ex : xs = [(f2, v2), (f1, v1)] := by unfold fldV at hx; simp [e1, e2] at hx; exact hx.symm
      subst ex
      refine ⟨v1, start_at (by simpa using e1), .ref a, start_at rfl, a, C, rfl, T, n1, .inl ⟨ha, fun dx nd ne => ?_⟩⟩
      refine ⟨v2, start_at (by simpa using e2), .ref a, start_at rfl, a, C, rfl, T, n2, .inr ⟨dx, [(f1, v1)], upd_same, by rw [upd_ne ne, upd_same], by simp, ?_⟩⟩
      refine h dx _ nd ne (by rw [upd_ne (Ne.symm ne), upd_same]) upd_same fun b h1 h2 => ?_
      rw [upd_ne h2, upd_ne h1, upd_ne h2]
end
/-! the reckoning of it -/
theorem e_raise {c n : Nat} {flds : List (Str × Nat)} {fa : VEnv → Rs (List RV)} {env : VEnv} : sRaise c n flds fa env = (fa env).out env fun rs => (rsO ((allD rs).bind (fldD flds))).out env fun fs => if rs.length = n ∧ n ≤ 900 then .ex c fs env else .no := rfl
theorem e_try_nx {mt : Nat → Option Bool} {i : Nat} {fb : VEnv → Out} {fs : Addr → Addr → Nat → VEnv → Out} {env : VEnv} (h : ∀ c fl e, fb env ≠ .ex c fl e) : sTry mt i fb fs env = fb env := by
  unfold sTry
  cases e : fb env with
  | ex c fl e' => exact absurd e (h c fl e')
  | _ => rfl
theorem e_try_ok {mt : Nat → Option Bool} {i : Nat} {fb : VEnv → Out} {fs : Addr → Addr → Nat → VEnv → Out} {env : VEnv} {o : Out} (h : fb env = o) (hn : ∀ c fl e, o ≠ .ex c fl e) : sTry mt i fb fs env = o := by
  rw [e_try_nx (fun c fl e => by rw [h]; exact hn c fl e), h]
theorem e_try_ex {mt : Nat → Option Bool} {i : Nat} {fb : VEnv → Out} {fs : Addr → Addr → Nat → VEnv → Out} {env env' : VEnv} {c : Nat} {fl : List (Str × PyData)} {o : Out} (h : fb env = .ex c fl env') (hm : mt c = some true) (hl : i < env'.length)
    (hs : ∀ a dd, (fs a dd c (env'.set i (some (.xo a dd c fl)))).clr i = o) : sTry mt i fb fs env = o := by
  unfold sTry
  rw [h]
  dsimp only
  rw [hm]
  dsimp only
  rw [if_pos hl]
  exact oneOut_eq hs
theorem e_clr1 (i env) : (Out.nx env).clr i = .nx (env.set i none) := rfl
theorem e_clr2 (i env) : (Out.bk env).clr i = .bk (env.set i none) := rfl
theorem e_clr3 (i env) : (Out.ct env).clr i = .ct (env.set i none) := rfl
theorem e_clr4 (i r) : (Out.rt r).clr i = .rt r := rfl
theorem e_xf {a dd c i : Nat} {cs : Nat → Bool} {f : Str} {env : VEnv} : cXf a dd c cs i f env = match env[i]? with
  | some (some (.xo a' dd' c' fs)) => if a' = a ∧ dd' = dd ∧ c' = c ∧ cs c = true then (rsO (fs.lookup f)).bind fun d => .ok (.d d) else .no
  | _ => .no := rfl
/-! what the text says of its classes -/
theorem oex_mk {K : PySem.W.Frag} {C : Addr} {nm q : Str} {N : Addr} {bs bm : List Value} {sn : List Str} {sub : List Value} {ab : Bool} {col : Option Bool} {dd : Option Addr} {k0 k1 k2 k3 k5 : Option Value} (l : K.lookup C = some (excClassObj nm q C N bs bm true sn sub ab col dd k0 k1 k2 k3 k5 "ValueError.__new__"))
    (hb : PySem.HandSPX.refsVE bm = true) (sa : PySem.W.findIn K (.ref C) "__setattr__" = some (some (.builtin "object.__setattr__"))) (exC : PySem.W.subIn K (.ref C) (.type "BaseException") = some true) (tyC : PySem.W.typeIn K (.ref C) = some (.type "type")) (kC : PySem.W.keepIn K (.ref C) = true) : OexC K C :=
  ⟨⟨nm, q, N, bs, bm, sn, sub, ab, col, dd, k0, k1, k2, k3, k5, l, hb⟩, sa, exC, tyC, kC⟩
end VL

namespace VL
open PySem PySem.Spec PyProof.Rows L2
/-! ## isinstance of a caught exception -/
structure IsE (K : PySem.W.Frag) (C : Addr) : Prop where
  hga : PySem.W.findIn K (.ref C) "__getattribute__" = some (some (.builtin "BaseException.__getattribute__"))
  hgt : PySem.W.findIn K (.ref C) "__getattr__" = some none
  hs : PySem.W.subIn K (.ref C) (.type "BaseException") = some true
  hd : PySem.W.hasDictIn K C = true
  ha : PySem.W.findIn K (.ref C) "__class__" = some (some (.builtin "object.__class__"))
  hn : PySem.W.specialIn K (.builtin "object.__class__") "__get__" = some (some (.builtin "getset_descriptor.__get__"))
  ht : PySem.W.takesIn K (.builtin "object.__class__") = some true
  hm : PySem.W.mroIn K C (.type "object") = some true
def rIsX (K : PySem.W.Frag) (C a dd : Addr) : List V → Hp → VK → Prop := fun xs H Q => ∃ (c : V) (cv : Value) (b : Bool) (fs : List (Str × V)), xs = [.ref a, c] ∧ (∀ u, RelV c u → u = cv) ∧ PySem.W.kitOne K (.ref C) cv = some b ∧ H dd = some (.xd fs) ∧ Q (.bl b) H
theorem call_isX {X : Cx} {a C dd : Addr} {oe : Obj} {pn : List (Addr × Obj)} (T : IsE X.K C) (hz : Zc (.ref C) (some dd) oe) (hf : ∃ vs, oe.data = .fields vs) : CallR (X.suite a ((a, oe) :: pn)) (.builtin "isinstance") (rIsX X.K C a dd) := by
  intro pins s σ H xs us Q I r h
  obtain ⟨c, cv, b, fs, rfl, hcv, e, hdd, q⟩ := h
  cases r with
  | cons rx rr =>
    cases rr with
    | cons rt rr =>
      cases rr
      cases rx
      have ec := hcv _ rt
      subst ec
      obtain ⟨hget, _⟩ := I.pin (a, oe) (List.mem_append.mpr (.inl List.mem_cons_self))
      obtain ⟨vs, hv⟩ := hf
      have hx : ObjOk X.prog X.w H s.heap dd (.xd fs) := I.hok dd _ hdd
      obtain ⟨mA, hns, hr⟩ := hx
      obtain ⟨od, ho, hl⟩ := lookIn_ns hns
      have J : PySem.W.InstAt s.heap a oe C (some od) := ⟨hget, hz.1, by unfold PySem.W.notCls; rw [hv] <;> rfl, by rw [hz.2]; exact ho⟩
      exact PySem.W.kia_one (PySem.W.kitx_exc (by obtain ⟨cd, hc, _⟩ := PySem.W.any_some T.hd; rw [hc]; rfl) T.hga T.hgt T.hs T.ha T.hn T.ht T.hm) I.kIn J e (fun z => nomatch z) fun tk => ⟨.bl b, H, I.kept (t' := tk) fun _ _ z => z, rfl, q⟩
def cIsE (a dd c : Nat) (tb : Nat → Option Bool) (i : Nat) : VEnv → Rs RV := fun env => match env[i]? with
  | some (some (.xo a' dd' c' fs)) => if a' = a ∧ dd' = dd ∧ c' = c then (rsO (tb c)).bind fun b => .ok (.d (.bool b)) else .no
  | _ => .no
theorem e_isE {a dd c i : Nat} {tb : Nat → Option Bool} {env : VEnv} : cIsE a dd c tb i env = match env[i]? with
  | some (some (.xo a' dd' c' fs)) => if a' = a ∧ dd' = dd ∧ c' = c then (rsO (tb c)).bind fun b => .ok (.d (.bool b)) else .no
  | _ => .no := rfl
section
variable {ca : CA} {W : WX} {X : Cx}
theorem ve_isX {a dd c i : Nat} {tb : Nat → Option Bool} {oe : Obj} {pn : List (Addr × Obj)} {x x2 : Str} {p p1 p2 pos : Pos} {cv : V} {cu : Value} (T : ∀ c b, tb c = some b → IsE X.K (ca c) ∧ PySem.W.kitOne X.K (.ref (ca c)) cu = some b) (hz : Zc (.ref (ca c)) (some dd) oe) (hf : ∃ vs, oe.data = .fields vs)
    (hg : Gl X "isinstance") (hm : X.mg "isinstance" = none) (pc : PE (X.suite a ((a, oe) :: pn)) (.Name x2 p2) (tC cv)) (rc : ∀ u, RelV cv u → u = cu)
    (hN : X.N[i]? = some x) (hv : Vis X.env.scope x) (hd : (x == ("__debug__" : Str)) = false := by decide) (hcd : (x == ("__classdict__" : Str)) = false := by decide)
    (hs : starEach [.Name x p1, .Name x2 p2] X.env = (false, eval (.Name x p1) X.env) :: starEach [.Name x2 p2] X.env := by rfl) (hs2 : starEach [.Name x2 p2] X.env = (false, eval (.Name x2 p2) X.env) :: starEach [] X.env := by rfl) (hpl : (backTo pos (starEach [.Name x2 p2] X.env)).any (·.1) = false := by rfl) :
    VE ca W (X.suite a ((a, oe) :: pn)) (.Call (.Name "isinstance" p) [.Name x p1, .Name x2 p2] [] pos) (cIsE a dd c tb i) := by
  cases et : tb c with
  | none =>
    refine ⟨fun _ _ _ => False, ⟨fun _ _ _ _ _ _ h => h.elim⟩, fun B F env σ H Q st q => ?_⟩
    unfold cIsE at q
    rw [et] at q
    split at q
    · split at q <;> exact q.elim
    · exact q.elim
  | some b =>
    obtain ⟨T1, T2⟩ := T c b et
    refine ⟨_, pe_callB (X := X.suite a ((a, oe) :: pn)) (call_isX T1 hz hf) hg hm (by decide +kernel) (pa_cons (pe_var (X := X.suite a ((a, oe) :: pn)) hN hv hd hcd) (pa_cons pc pa_nil hs2) hs) (by decide) (by decide) hs hpl, fun B F env σ H Q st q => ?_⟩
    unfold cIsE at q
    rw [et] at q
    split at q
    · rename_i a' dd' c' fs e
      obtain ⟨v, ev, h⟩ := st.sl i _ e
      obtain ⟨rfl, xs, hdd, kd⟩ := h
      split at q
      · rename_i hcond
        obtain ⟨rfl, rfl, rfl⟩ := hcond
        exact ⟨_, ev, cv, cu, b, xs, rfl, rc, T2, hdd, q F H _ (Grow.refl st.cfg) (.bl b)⟩
      · exact q.elim
    · exact q.elim
theorem ve_isE {a dd c i : Nat} {tb : Nat → Option Bool} {oe : Obj} {pn : List (Addr × Obj)} {x x2 : Str} {p p1 p2 pos : Pos} {D : Addr} (T : ∀ c b, tb c = some b → IsE X.K (ca c) ∧ PySem.W.kitOne X.K (.ref (ca c)) (.ref D) = some b) (hz : Zc (.ref (ca c)) (some dd) oe) (hf : ∃ vs, oe.data = .fields vs)
    (hg : Gl X "isinstance") (hm : X.mg "isinstance" = none) (hg2 : Gl X x2) (hm2 : X.mg x2 = some (.ref D)) (hN : X.N[i]? = some x) (hv : Vis X.env.scope x) (hd : (x == ("__debug__" : Str)) = false := by decide) (hcd : (x == ("__classdict__" : Str)) = false := by decide) (hd2 : (x2 == ("__debug__" : Str)) = false := by decide)
    (hs : starEach [.Name x p1, .Name x2 p2] X.env = (false, eval (.Name x p1) X.env) :: starEach [.Name x2 p2] X.env := by rfl) (hs2 : starEach [.Name x2 p2] X.env = (false, eval (.Name x2 p2) X.env) :: starEach [] X.env := by rfl) (hpl : (backTo pos (starEach [.Name x2 p2] X.env)).any (·.1) = false := by rfl) :
    VE ca W (X.suite a ((a, oe) :: pn)) (.Call (.Name "isinstance" p) [.Name x p1, .Name x2 p2] [] pos) (cIsE a dd c tb i) :=
  ve_isX T hz hf hg hm (pe_glob (X := X.suite a ((a, oe) :: pn)) (v := .ref D) hg2 hm2 rfl hd2) (fun _ h => h) hN hv hd hcd hs hs2 hpl
theorem ve_isV {a dd c i : Nat} {tb : Nat → Option Bool} {oe : Obj} {pn : List (Addr × Obj)} {x x2 : Str} {p p1 p2 pos : Pos} {D : String} (T : ∀ c b, tb c = some b → IsE X.K (ca c) ∧ PySem.W.kitOne X.K (.ref (ca c)) (.type D) = some b) (hz : Zc (.ref (ca c)) (some dd) oe) (hf : ∃ vs, oe.data = .fields vs)
    (hg : Gl X "isinstance") (hm : X.mg "isinstance" = none) (hg2 : Gl X x2) (hm2 : X.mg x2 = none) (hv2 : bootBuiltins x2 = some (.type D)) (hN : X.N[i]? = some x) (hv : Vis X.env.scope x) (hn2 : x2 ≠ "__name__" := by decide) (hd : (x == ("__debug__" : Str)) = false := by decide) (hcd : (x == ("__classdict__" : Str)) = false := by decide) (hd2 : (x2 == ("__debug__" : Str)) = false := by decide)
    (hs : starEach [.Name x p1, .Name x2 p2] X.env = (false, eval (.Name x p1) X.env) :: starEach [.Name x2 p2] X.env := by rfl) (hs2 : starEach [.Name x2 p2] X.env = (false, eval (.Name x2 p2) X.env) :: starEach [] X.env := by rfl) (hpl : (backTo pos (starEach [.Name x2 p2] X.env)).any (·.1) = false := by rfl) :
    VE ca W (X.suite a ((a, oe) :: pn)) (.Call (.Name "isinstance" p) [.Name x p1, .Name x2 p2] [] pos) (cIsE a dd c tb i) :=
  ve_isX T hz hf hg hm (pe_bltn (X := X.suite a ((a, oe) :: pn)) (v := .ty D) hg2 hm2 hv2 rfl hn2 hd2) (fun _ h => h) hN hv hd hcd hs hs2 hpl
end
theorem kit_mk {K : PySem.W.Frag} {C D : Addr} {b : Bool} (hd : PySem.W.hasDictIn K D = true) (ty : PySem.W.typeIn K (.ref D) = some (.type "type")) (ss : PySem.W.subIn K (.ref D) (.ref D) = some true) (sb : PySem.W.subIn K (.ref C) (.ref D) = some b) : PySem.W.kitOne K (.ref C) (.ref D) = some b := by
  unfold PySem.W.kitOne
  split
  · rename_i h
    have e : C = D := Value.ref.inj (beq_iff_eq.mp h)
    subst e
    exact ss.symm.trans sb
  · obtain ⟨cd, hc, _⟩ := PySem.W.any_some hd
    have e2 : ((PySem.W.clsIn K D).isSome && PySem.W.typeIn K (.ref D) == some (.type "type")) = true := by rw [hc, ty] <;> rfl
    show (if ((PySem.W.clsIn K D).isSome && PySem.W.typeIn K (.ref D) == some (.type "type")) = true then PySem.W.subIn K (.ref C) (.ref D) else none) = some b
    rw [if_pos e2]
    exact sb
theorem kit_mkV {K : PySem.W.Frag} {C : Addr} {b : Bool} (sb : PySem.W.subIn K (.ref C) (.type "ValueError") = some b) : PySem.W.kitOne K (.ref C) (.type "ValueError") = some b := by
  unfold PySem.W.kitOne
  rw [if_neg (by intro h; cases (beq_iff_eq.mp h))]
  show (if PySem.W.kitMeta "ValueError" = true then PySem.W.subIn K (.ref C) (.type "ValueError") else none) = some b
  rw [if_pos (by decide +kernel)]
  exact sb
end VL

namespace VL
open PySem PySem.Spec PyProof.Rows L2
/-! ## sorted lists of tuples of ints (of any lengths, none empty) -/
def lxB : List Int → List Int → Bool
  | [], [] => false
  | [], _ :: _ => true
  | _ :: _, [] => false
  | a :: as, b :: bs => if a = b then lxB as bs else decide (a < b)
theorem lxB_irr : ∀ a, lxB a a = false
  | [] => rfl
  | a :: as => by unfold lxB; rw [if_pos rfl]; exact lxB_irr as
theorem lxB_tri : ∀ a b, lxB a b = false → lxB b a = false → a = b
  | [], [], _, _ => rfl
  | [], _ :: _, h, _ => by cases h
  | _ :: _, [], _, h => by cases h
  | a :: as, b :: bs, h, k => by
    unfold lxB at h k
    by_cases e : a = b
    · rw [if_pos e] at h
      rw [if_pos e.symm] at k
      rw [e, lxB_tri as bs h k]
    · rw [if_neg e, decide_eq_false_iff_not] at h
      rw [if_neg (Ne.symm e), decide_eq_false_iff_not] at k
      omega
theorem lxB_asym : ∀ a b, lxB a b = true → lxB b a = false
  | [], [], h => by cases h
  | [], _ :: _, _ => rfl
  | _ :: _, [], h => by cases h
  | a :: as, b :: bs, h => by
    unfold lxB at h ⊢
    by_cases e : a = b
    · rw [if_pos e] at h
      rw [if_pos e.symm]
      exact lxB_asym as bs h
    · rw [if_neg e, decide_eq_true_eq] at h
      rw [if_neg (Ne.symm e), decide_eq_false_iff_not]
      omega
theorem lxB_tr : ∀ a b c, lxB b a = false → lxB c b = false → lxB c a = false
  | [], _, [], _, _ => rfl
  | [], _, _ :: _, _, _ => rfl
  | _ :: _, [], _, h, _ => by cases h
  | _ :: _, _ :: _, [], _, k => by cases k
  | a :: as, b :: bs, c :: cs, h, k => by
    unfold lxB at h k ⊢
    by_cases e1 : b = a
    · rw [if_pos e1] at h
      by_cases e2 : c = b
      · rw [if_pos e2] at k
        rw [if_pos (e2.trans e1)]
        exact lxB_tr as bs cs h k
      · rw [if_neg e2, decide_eq_false_iff_not] at k
        rw [if_neg (fun z => e2 (z.trans e1.symm)), decide_eq_false_iff_not]
        omega
    · rw [if_neg e1, decide_eq_false_iff_not] at h
      by_cases e2 : c = b
      · rw [if_neg (fun z => e1 (e2.symm.trans z)), decide_eq_false_iff_not]
        omega
      · rw [if_neg e2, decide_eq_false_iff_not] at k
        by_cases e3 : c = a
        · omega
        · rw [if_neg e3, decide_eq_false_iff_not]
          omega
theorem swo_lx {α : Type} (k : α → List Int) : SrtO.Swo fun x y => lxB (k x) (k y) := ⟨fun x y => lxB_asym _ _, fun x y z h1 h2 => lxB_tr _ _ _ h1 h2⟩
/-- the comparison within the sort -/
def lxZ (z : Bool) : List Int → List Int → Bool
  | a :: as, b :: bs => if a = b then lxZ z as bs else decide (a < b)
  | _, _ => z
theorem lxZ_eq : ∀ as bs : List Int, lxZ (decide (as.length < bs.length)) as bs = lxB as bs := by
  have key : ∀ (as bs : List Int) (n : Nat), lxZ (decide (n + as.length < n + bs.length)) as bs = lxB as bs := by
    intro as
    induction as with
    | nil =>
      intro bs n
      cases bs with
      | nil => show decide _ = false; exact decide_eq_false (by simp)
      | cons b bs => show decide _ = true; exact decide_eq_true (by simp)
    | cons a as ih =>
      intro bs n
      cases bs with
      | nil => show decide _ = false; exact decide_eq_false (by simp)
      | cons b bs =>
        unfold lxZ lxB
        by_cases e : a = b
        · rw [if_pos e, if_pos e, ← ih bs (n + 1)]
          congr 1
          refine decide_eq_decide.mpr ?_
          rw [List.length_cons, List.length_cons]
          omega
        · rw [if_neg e, if_neg e]
  intro as bs
  have := key as bs 0
  simpa using this
section
variable {prog : Program} {w : World} {A : Around} {s : Shared}
theorem lex_any {b z : Bool} {Q : Bool → Shared → Prop} : ∀ {ns ms : List Int} {xs ys : List Value} (i : Nat), IntsAre xs ns → IntsAre ys ms → Q (lxZ z ns ms) s → PySem.W.KatLex prog w A b z Q (xs.zip ys) i s := by
  intro ns ms xs ys i hx
  induction hx generalizing ys ms i with
  | nil =>
    intro hy h
    exact PySem.W.kat_nil h
  | @cons p t xs ns hx ih =>
    intro hy h
    cases hy with
    | nil => exact PySem.W.kat_nil h
    | @cons q u ys ms hy =>
      show PySem.W.KatLex prog w A b z Q ((Value.int p t, Value.int q u) :: xs.zip ys) i s
      refine PySem.W.kat_cons (wpAny_eqBool_int ?_)
      unfold lxZ at h
      by_cases e : p = q
      · subst e
        rw [beq_self_eq_true]
        rw [if_pos rfl] at h
        exact PySem.W.kat_yes (ih (i + 1) hy h)
      · rw [show (p == q) = false from beq_eq_false_iff_ne.mpr e]
        rw [if_neg e] at h
        exact PySem.W.kat_no (TS.oneLt_ints _ h)
theorem tup_cmp {vs : List Value} {k : Value → List Int} (hp : ∀ v ∈ vs, TS.TupInts s.heap v (k v)) : SrtO.Cmp prog w A s (tuples' true) (fun p => p.1 ∈ vs) (SrtO.lt2 fun v u => lxB (k v) (k u)) := by
  intro p q hm hm'
  have h1 := hp _ hm
  have h2 := hp _ hm'
  show wpAny (model prog w) A (keyLt' (tuples' true) p.1 q.1) (fun r s' => s' = s ∧ r = lxB (k p.1) (k q.1)) (fun _ _ => False) s
  generalize k p.1 = ns at h1 ⊢
  generalize k q.1 = ms at h2 ⊢
  obtain ⟨a, xs, e1, ⟨o, ho, hc, n, hdt⟩, i⟩ := h1
  obtain ⟨a', ys, e2, ⟨o', ho', hc', n', hdt'⟩, i'⟩ := h2
  rw [e1, e2]
  refine PySem.W.kat_lt ho hdt ho' hdt' (lex_any 0 i i' ⟨rfl, ?_⟩)
  have l1 := i.length
  have l2 := i'.length
  rw [Array.length_toList] at l1 l2
  rw [l1, l2]
  exact lxZ_eq ns ms
theorem firsts_any {h : Heap} : ∀ {vs : List Value}, (∀ v ∈ vs, ∃ ns, TS.TupInts h v ns ∧ ns ≠ []) → ∃ fs : List Value, PySem.W.KatTups h vs fs ∧ fs.length = vs.length ∧ ∀ f ∈ fs, ∃ x t, f = Value.int x t
  | [], _ => ⟨[], PySem.W.KatTups.nil, rfl, fun _ hm => by simp at hm⟩
  | v :: vs, hp => by
    obtain ⟨fs, k, hl, hi⟩ := firsts_any (vs := vs) fun u hu => hp u (List.mem_cons_of_mem _ hu)
    obtain ⟨ns, ⟨a, xs, rfl, ⟨o, ho, hc, n, hdt⟩, i⟩, hn⟩ := hp v (List.mem_cons_self ..)
    obtain ⟨y, ys, e⟩ : ∃ y ys, xs.toList = y :: ys := by
      cases q : xs.toList with
      | nil =>
        rw [q] at i
        have l := i.length
        rw [List.length_nil] at l
        exact absurd (List.length_eq_zero_iff.mp l.symm) hn
      | cons y ys => exact ⟨y, ys, rfl⟩
    obtain ⟨m, t, hy⟩ := i.all y (by rw [e]; exact List.mem_cons_self ..)
    refine ⟨y :: fs, PySem.W.KatTups.cons ho hc hdt ?_ k, by simp [hl], ?_⟩
    · have z := congrArg (fun l : List Value => l[0]?) e
      simpa using z
    · intro f hf
      rcases List.mem_cons.mp hf with rfl | hf
      · exact ⟨m, t, hy⟩
      · exact hi f hf
theorem tups_sortable {a : Addr} {vs : List Value} {k : Value → List Int} (h0 : 0 < vs.length) (hp : ∀ v ∈ vs, TS.TupInts s.heap v (k v) ∧ k v ≠ []) (ha : ∀ o, s.heap.get? a = some o → o.cls ≠ .type "tuple") : SrtO.SortableO prog w A s a vs fun v u => lxB (k v) (k u) := by
  intro h' keep
  have hp' : ∀ v ∈ vs, TS.TupInts h' v (k v) ∧ k v ≠ [] := fun v hm => ⟨(hp v hm).1.keeps fun b o e c => keep b o (fun z => by subst z; exact ha o e c) e, (hp v hm).2⟩
  obtain ⟨fs, h1, h2, h3⟩ := firsts_any fun v hm => ⟨_, hp' v hm⟩
  refine ⟨tuples' true, fun Q E hq => ?_, tup_cmp fun v hm => (hp' v hm).1⟩
  refine PySem.W.kat_kind (T := .type "int") h1 (by omega) (fun f hm => ?_) (by rfl) ?_
  · obtain ⟨x, t, rfl⟩ := h3 f hm
    exact PySem.W.Looks.now
  · have e : (Value.type "int" != Value.type "tuple") = true := by first | decide +kernel | rfl | decide
    rw [e]
    exact hq
theorem sorted_tupsO {l : Addr} {vs : List Value} {k : Value → List Int} {Q : Value → Shared → Prop} {E : Value → Shared → Prop} (hl : s.heap.IsList l vs.toArray) (hz : vs.length ≤ sizeLine) (hp : ∀ v ∈ vs, TS.TupInts s.heap v (k v)) (hne : 2 ≤ vs.length → ∀ v ∈ vs, k v ≠ [])
    (h : ∀ (h' : Heap) (d : Addr) (out : List Value), SrtO.Srtd (fun v u => lxB (k v) (k u)) out → SrtO.Stb (fun v u => lxB (k v) (k u)) out vs → (∀ b o, s.heap.get? b = some o → h'.get? b = some o) → s.heap.objs.size ≤ d → (∃ n, h'.get? d = some (seqObj "list" out.toArray n)) → Q (.ref d) { s with heap := h' }) :
    wpAny (model prog w) A (call (.builtin "sorted") [.ref l]) Q E s := by
  refine SrtO.sorted_ord (swo_lx k) hl hz (fun h2 h₁ a ha kk => ?_) fun out hs hb => ?_
  · refine tups_sortable (s := { s with heap := h₁ }) (by omega) (fun v hm => ⟨(hp v hm).keeps fun b o e _ => (kk b o e).2, hne h2 v hm⟩) fun o e => ?_
    have e' : some o = some (seqObj "list" vs.toArray 0) := e.symm.trans ha
    cases e'
    intro c
    exact absurd (Value.type.inj c) (by decide)
  · exact h _ _ out hs hb (fun b o e => sortedAll_old e) (Nat.le_succ _) (sortedAll_at s.heap vs out.toArray)
end
/-- sorted(xs), xs a list of tuples of ints, none of them empty -/
def rSortedLT (K : PySem.W.Frag) : List V → Hp → VK → Prop := fun vs H Q => ∃ (a : Addr) (xs : List V) (k : V → List Int), vs = [V.ref a] ∧ SqL K H a xs ∧ (∀ x ∈ xs, ∃ t, x = V.ref t ∧ SqT K H t ((k x).map V.int)) ∧ (2 ≤ xs.length → ∀ x ∈ xs, k x ≠ []) ∧
  ∀ ys p, SrtO.Srtd (fun x y => lxB (k x) (k y)) ys → SrtO.Stb (fun x y => lxB (k x) (k y)) ys xs → H p = none → Q (.ref p) (upd H p (.lst ys))
theorem ints_are : ∀ {ns : List Int} {us : List Value}, Vals (ns.map V.int) us → IntsAre us ns
  | [], _, .nil => .nil
  | n :: ns, _, .cons r rs => by
    obtain ⟨t, rfl⟩ := r
    exact .cons n t (ints_are rs)
theorem cr_sortedLT {X : Cx} : CallR X (.builtin "sorted") (rSortedLT X.K) := by
  intro pins s σ H vs us Q I r h
  obtain ⟨a, xs, k, rfl, hs, hx, hne, q⟩ := h
  obtain ⟨its, rv, hl, hz⟩ := I.list hs
  obtain ⟨u, rfl, ru⟩ := vals1 r
  obtain rfl : u = Value.ref a := ru
  obtain ⟨e1, e2⟩ := refs_back rv fun x m => by
    obtain ⟨t, e, _⟩ := hx x m
    exact ⟨t, e⟩
  refine sorted_tupsO (k := fun u => k (backV u)) hl.isList (by rw [← rv.length]; exact hz) (fun v hv => ?_) (fun h2 v hv => ?_) fun h' d out h1 h2 kp hd hn => ?_
  · obtain ⟨t, rfl⟩ := e2 v hv
    have hm : V.ref t ∈ xs := by rw [e1]; exact List.mem_map.mpr ⟨_, hv, rfl⟩
    obtain ⟨t', e, ht⟩ := hx _ hm
    cases e
    obtain ⟨its2, r2, hT, _⟩ := I.tuple ht
    exact ⟨t, its2.toArray, rfl, hT, by
      have z := ints_are r2
      show IntsAre its2.toArray.toList (k (V.ref t))
      simpa using z⟩
  · obtain ⟨t, rfl⟩ := e2 v hv
    exact hne (by rw [rv.length]; exact h2) _ (by rw [e1]; exact List.mem_map.mpr ⟨_, hv, rfl⟩)
  · have h3 : ∀ u ∈ out, ∃ a, u = Value.ref a := fun u hu => e2 u (h2.perm.mem_iff.mp hu)
    obtain ⟨n, hn⟩ := hn
    have hb : SrtO.Stb (fun x y => lxB (k x) (k y)) (out.map backV) xs := by
      rw [e1]
      exact SrtO.Stb.map (swo_lx k) backV h2
    refine ⟨.ref d, upd H d (.lst (out.map backV)), I.laid (t' := s.toks) kp hd ⟨?_, out, n, vals_back h3, hn⟩, rfl, q _ d (SrtO.srtd_map h1) hb (I.hok.fresh hd)⟩
    rw [hb.len]
    exact hz
/-- a tuple of these ints -/
def TupR (K : PySem.W.Frag) (H : Hp) (x : V) (ns : List Int) : Prop := ∃ t, x = V.ref t ∧ SqT K H t (ns.map V.int)
/-- and no dict of its own -/
def TupN (K : PySem.W.Frag) (H : Hp) (x : V) (ns : List Int) : Prop := ∃ t, x = V.ref t ∧ SqN K H t (ns.map V.int)
def rSortedRows (K : PySem.W.Frag) : List V → Hp → VK → Prop := fun vs H Q => ∃ (a : Addr) (xs : List V) (rows : List (List Int)) (P : V → List Int → Prop), vs = [V.ref a] ∧ SqL K H a xs ∧ (∀ x ns, P x ns → TupR K H x ns) ∧ Paired P xs rows ∧ (2 ≤ rows.length → ∀ r ∈ rows, r ≠ []) ∧
  ∀ (ys : List V) (rows' : List (List Int)) p, Paired P ys rows' → rows'.Pairwise (fun a b => lxB b a = false) → rows'.Perm rows → H p = none → Q (.ref p) (upd H p (.lst ys))
theorem int_inj : ∀ {a b : List Int}, a.map V.int = b.map V.int → a = b
  | [], [], _ => rfl
  | [], _ :: _, h => by cases h
  | _ :: _, [], h => by cases h
  | a :: as, b :: bs, h => by
    rw [List.map_cons, List.map_cons] at h
    injection h with h1 h2
    injection h1 with h1
    rw [h1, int_inj h2]
theorem cr_sortedRows {X : Cx} : CallR X (.builtin "sorted") (rSortedRows X.K) := by
  intro pins s σ H vs us Q I r h
  obtain ⟨a, xs, rows, P, rfl, hs, hT, hp, hne, q⟩ := h
  obtain ⟨k, hk⟩ : ∃ k : V → List Int, ∀ x ns, TupR X.K H x ns → k x = ns := by
    classical
    refine ⟨fun x => if h : ∃ ns, TupR X.K H x ns then Classical.choose h else [], fun x ns hx => ?_⟩
    have hex : ∃ ns, TupR X.K H x ns := ⟨ns, hx⟩
    have e := Classical.choose_spec hex
    simp only [dif_pos hex]
    generalize Classical.choose hex = ms at e ⊢
    obtain ⟨t, e1, h1⟩ := e
    obtain ⟨t', e2, h2⟩ := hx
    rw [e1] at e2
    cases e2
    exact int_inj (I.tuple_inj h1 h2)
  have km : ∀ {xs : List V} {rows : List (List Int)}, Paired P xs rows → xs.map k = rows ∧ ∀ x ∈ xs, P x (k x) := by
    intro xs rows hp
    induction hp with
    | nil => exact ⟨rfl, fun x hx => by cases hx⟩
    | @cons x ns xs rows h1 _ ih =>
      have e := hk x ns (hT x ns h1)
      refine ⟨by rw [List.map_cons, e, ih.1], fun y hy => ?_⟩
      rcases List.mem_cons.mp hy with rfl | hy
      · rw [e]; exact h1
      · exact ih.2 y hy
  obtain ⟨k1, k2⟩ := km hp
  refine cr_sortedLT pins s σ H _ us Q I r ⟨a, xs, k, rfl, hs, fun x hx => hT _ _ (k2 x hx), fun h2 x hx => hne (by rw [← k1, List.length_map]; exact h2) _ (by rw [← k1]; exact List.mem_map_of_mem hx), fun ys p h1 h2 n => q ys (ys.map k) p ?_ (List.pairwise_map.mpr h1) ?_ n⟩
  · have : ∀ y ∈ ys, P y (k y) := fun y hy => k2 y (h2.perm.mem_iff.mp hy)
    clear h1 h2
    induction ys with
    | nil => exact .nil
    | cons y ys ih => exact .cons (this y List.mem_cons_self) (ih fun z hz => this z (List.mem_cons_of_mem _ hz))
  · rw [← k1]
    exact h2.perm.map k
def insT (x : List Int) : List (List Int) → List (List Int)
  | [] => [x]
  | y :: ys => if lxB y x = true then y :: insT x ys else x :: y :: ys
def isortT : List (List Int) → List (List Int)
  | [] => []
  | x :: xs => insT x (isortT xs)
theorem insT_perm (x : List Int) : ∀ ys, (insT x ys).Perm (x :: ys)
  | [] => .refl _
  | y :: ys => by
    unfold insT
    split
    · exact ((insT_perm x ys).cons y).trans (.swap x y ys)
    · exact .refl _
theorem isortT_perm : ∀ xs, (isortT xs).Perm xs
  | [] => .refl _
  | x :: xs => (insT_perm x _).trans ((isortT_perm xs).cons x)
theorem insT_sorted (x : List Int) : ∀ {ys : List (List Int)}, ys.Pairwise (fun a b => lxB b a = false) → (insT x ys).Pairwise (fun a b => lxB b a = false)
  | [], _ => by simp [insT]
  | y :: ys, h => by
    have h1 := List.pairwise_cons.mp h
    unfold insT
    split
    · rename_i c
      refine List.pairwise_cons.mpr ⟨fun z hz => ?_, insT_sorted x h1.2⟩
      rcases List.mem_cons.mp ((insT_perm x ys).mem_iff.mp hz) with rfl | hz
      · exact lxB_asym _ _ c
      · exact h1.1 z hz
    · rename_i c
      have c : lxB y x = false := by simpa using c
      refine List.pairwise_cons.mpr ⟨fun z hz => ?_, h⟩
      rcases List.mem_cons.mp hz with rfl | hz
      · exact c
      · exact lxB_tr _ _ _ c (h1.1 z hz)
theorem isortT_sorted : ∀ xs, (isortT xs).Pairwise (fun a b => lxB b a = false)
  | [] => .nil
  | x :: xs => insT_sorted x (isortT_sorted xs)
theorem sortedT_uniq : ∀ {xs ys : List (List Int)}, xs.Perm ys → xs.Pairwise (fun a b => lxB b a = false) → ys.Pairwise (fun a b => lxB b a = false) → xs = ys
  | [], ys, p, _, _ => (List.Perm.nil_eq p)
  | x :: xs, [], p, _, _ => by have := p.length_eq; simp at this
  | x :: xs, y :: ys, p, h1, h2 => by
    have a1 := List.pairwise_cons.mp h1
    have a2 := List.pairwise_cons.mp h2
    have e : x = y := by
      rcases List.mem_cons.mp (p.mem_iff.mp List.mem_cons_self) with e | hx
      · exact e
      · rcases List.mem_cons.mp (p.mem_iff.mpr List.mem_cons_self) with e | hy
        · exact e.symm
        · exact lxB_tri x y (a2.1 x hx) (a1.1 y hy)
    subst e
    rw [sortedT_uniq p.cons_inv a1.2 a2.2]
def tupsI : List PyData → Option (List (List Int))
  | [] => some []
  | .tuple xs :: r => (intsD xs).bind fun ns => (tupsI r).map (ns :: ·)
  | _ => none
theorem tups_ok {K : PySem.W.Frag} {F : Hp} : ∀ {xs : List PyData} {vs : List V} {rows : List (List Int)}, DqA K F vs xs → tupsI xs = some rows → Paired (TupN K F) vs rows
  | [], _, _, h, e => by cases h; cases e; exact .nil
  | x :: xs, _, rows, h, e => by
    cases h with
    | cons h1 h2 =>
      cases x with
      | tuple ds =>
        unfold tupsI at e
        cases e1 : intsD ds with
        | none => rw [e1] at e; cases e
        | some ns =>
          rw [e1] at e
          simp only [Option.bind_some] at e
          obtain ⟨r, e2, e3⟩ := Option.map_eq_some_iff.mp e
          subst e3
          cases h1 with
          | tup q1 q2 =>
            have := ints_ok q2 e1
            subst this
            exact .cons ⟨_, rfl, q1⟩ (tups_ok h2 e2)
      | _ => cases e
theorem tups_dq {K : PySem.W.Frag} {F : Hp} : ∀ {vs : List V} {rows : List (List Int)}, Paired (TupN K F) vs rows → DqA K F vs (rows.map fun r => .tuple (r.map .int))
  | _, _, .nil => .nil
  | _, _, .cons ⟨t, e, h⟩ r => by
    subst e
    exact .cons (.tup h (DqA.of_ints _)) (tups_dq r)
def gSortedT : List RV → Rs RV
  | [r] => (rsO r.qv).bind fun xs => (rsO (tupsI xs)).bind fun rows => if rows.length < 2 ∨ rows.all (fun r => !r.isEmpty) = true then .ok (.ol ((isortT rows).map fun r => .tuple (r.map .int))) else .no
  | _ => .no
theorem e_sortedT (r : RV) : gSortedT [r] = (rsO r.qv).bind fun xs => (rsO (tupsI xs)).bind fun rows => if rows.length < 2 ∨ rows.all (fun r => !r.isEmpty) = true then .ok (.ol ((isortT rows).map fun r => .tuple (r.map .int))) else .no := rfl
theorem c_sortedT {K : PySem.W.Frag} {ca : CA} : CaS K ca (rSortedRows K) gSortedT := by
  intro W σ F0 H0 F H vs as Q gr h p
  unfold gSortedT at p
  split at p
  · rename_i r
    obtain ⟨v, rfl, hx⟩ := pr1 h
    cases e : r.qv with
    | none => rw [e] at p; exact p.elim
    | some xs =>
      rw [e] at p
      simp only [rsO_some, Rs.bind_ok] at p
      cases e2 : tupsI xs with
      | none => rw [e2] at p; exact p.elim
      | some rows =>
        rw [e2] at p
        simp only [rsO_some, Rs.bind_ok] at p
        by_cases hc : rows.length < 2 ∨ rows.all (fun r => !r.isEmpty) = true
        rotate_left
        · rw [if_neg hc] at p; exact p.elim
        rw [if_pos hc] at p
        obtain ⟨q, ws, rfl, hq, dq⟩ := qv_ok gr.cfg.sub hx e
        refine ⟨q, ws, rows, TupN K F, rfl, hq, fun x ns ⟨t, e3, h3⟩ => ⟨t, e3, same_seqT gr.cfg.sub h3.1⟩, tups_ok dq e2, fun h2 r hr => ?_, fun ys rows' l py so pm hl => ?_⟩
        · rcases hc with hc | hc
          · omega
          · have := (List.all_eq_true.mp hc) r hr
            intro z
            rw [z] at this
            cases this
        have e3 : rows' = isortT rows := sortedT_uniq (pm.trans (isortT_perm rows).symm) so (isortT_sorted rows)
        subst e3
        have g2 := Grow.newO gr.cfg (.lst ys) hl (fun _ z => by cases z)
        exact p _ _ _ (gr.trans g2) ⟨l, _, rfl, none_n gr.hh hl, same_none gr.cfg.sub hl, upd_same, tups_dq py⟩
  · exact p.elim
end VL

namespace VL
open PySem PySem.Spec PyProof.Rows L2
/-! ## a comprehension with two fors -/
def Aw (H1 : Hp) (env : VEnv) (σ : L2.St) (D : Addr) : Prop := ∀ (i : Nat) (r : RV) (p : Addr), env[i]? = some (some r) → r.own = true → σ[i]? = some (some (.ref p)) → p ≠ D ∧ ∀ (me : Bool) (x : Str) (fs : List (Str × FV)), r = .ob me x fs → ∃ C dx vs, H1 p = some (.ins C dx vs) ∧ D ∉ lad vs fs
theorem StOk.away {K : PySem.W.Frag} {B : Base} {F H H1 : Hp} {env : VEnv} {σ : L2.St} {D : Addr} {acc acc' : List V} (st : StOk K ca B F env σ H) (sH : SameN H1 H) (aw' : Aw H1 env σ D)
    (n0 : B.H D = none) (f0 : F D = none) (hD : H D = some (.lst acc)) : StOk K ca B F env σ (upd H D (.lst acc')) := by
  have aw : ∀ (i : Nat) (r : RV) (p : Addr), env[i]? = some (some r) → r.own = true → σ[i]? = some (some (.ref p)) → p ≠ D := fun i r p e o z => (aw' i r p e o z).1
  have obq : ∀ {j : Nat} {a : Addr} {me : Bool} {x : Str} {fs : List (Str × FV)}, env[j]? = some (some (.ob me x fs)) → σ[j]? = some (some (.ref a)) → D ∉ fla H a fs := fun {j a me x fs} ej sj => by
    obtain ⟨C, dx, vs, h1, h2⟩ := (aw' j _ a ej rfl sj).2 me x fs rfl
    rw [fla_eq fs (sH _ _ h1)]
    exact h2
  have boq : ∀ {j : Nat} {a : Addr} {x : Str} {fs : List (Str × FV)}, env[j]? = some (some (.bo x fs)) → σ[j]? = some (some (.ref a)) → D ∉ fla H a fs := fun {j a x fs} ej sj hq => by
    obtain ⟨o, ho⟩ := st.rg.o3 j a D x fs ej sj hq
    rw [n0] at ho; cases ho
  have bop : ∀ {j : Nat} {a : Addr} {x : Str} {fs : List (Str × FV)}, env[j]? = some (some (.bo x fs)) → σ[j]? = some (some (.ref a)) → a ≠ D := fun {j a x fs} ej sj z => by
    obtain ⟨o, ho⟩ := st.bo j _ a ej rfl sj
    rw [z, n0] at ho; cases ho
  refine ⟨st.gr.write n0 f0 hD (fun _ z => by cases z), st.len, fun i r e => ?_, st.bo, st.dis, st.rgTo (st.rg.tb.aside hD (fun ps z => by cases z)) fun i p C dx vs r e z o hi => upd_ne fun w => by rw [w, hD] at hi; cases hi⟩
  obtain ⟨v, e1, q⟩ := st.sl i r e
  refine ⟨v, e1, ?_⟩
  cases r with
  | d x => exact q
  | ol xs => obtain ⟨p, vs, ep, a1, a2, hp, a3⟩ := q; subst ep; exact ⟨p, vs, rfl, a1, a2, by rw [upd_ne (aw i _ p e rfl e1)]; exact hp, a3⟩
  | od xs => obtain ⟨p, vs, ep, a1, a2, hp, a3⟩ := q; subst ep; exact ⟨p, vs, rfl, a1, a2, by rw [upd_ne (aw i _ p e rfl e1)]; exact hp, a3⟩
  | ot xs => obtain ⟨p, vs, ep, a1, a2, hp, a3⟩ := q; subst ep; exact ⟨p, vs, rfl, a1, a2, by rw [upd_ne (aw i _ p e rfl e1)]; exact hp, a3⟩
  | bl xs =>
    obtain ⟨p, vs, ep, hp, a3⟩ := q; subst ep
    obtain ⟨o, ho⟩ := st.bo i _ p e rfl e1
    exact ⟨p, vs, rfl, by rw [upd_ne (ne_of_none ho n0)]; exact hp, a3⟩
  | bd xs =>
    obtain ⟨p, vs, ep, hp, a3⟩ := q; subst ep
    obtain ⟨o, ho⟩ := st.bo i _ p e rfl e1
    exact ⟨p, vs, rfl, hp.imp (fun w => by rw [upd_ne (ne_of_none ho n0)]; exact w) (fun ⟨o, w⟩ => ⟨o, by rw [upd_ne (ne_of_none ho n0)]; exact w⟩), a3⟩
  | bt xs =>
    obtain ⟨p, vs, ep, hp, a3⟩ := q; subst ep
    obtain ⟨o, ho⟩ := st.bo i _ p e rfl e1
    exact ⟨p, vs, rfl, by rw [upd_ne (ne_of_none ho n0)]; exact hp, a3⟩
  | sc ns => exact q
  | t3 x ys kvs => exact t3_mono (Same.refl _) q
  | fd kvs => exact fd_mono (Same.refl _) q
  | ob me x fs => obtain ⟨a, z, h4⟩ := q; subst z; exact ⟨a, rfl, h4.aside (aw i _ a e rfl e1) (obq e e1)⟩
  | bo x fs => obtain ⟨a, z, h4⟩ := q; subst z; exact ⟨a, rfl, h4.aside (bop e e1) (boq e e1)⟩
  | xo a dd c fs =>
    obtain ⟨ea, xs, hp, a3⟩ := q
    refine ⟨ea, xs, ?_, a3⟩
    have : dd ≠ D := fun z => by subst z; rw [hD] at hp; cases hp
    rw [upd_ne this]; exact hp
theorem tgEs_own : ∀ {is : List Nat} {xs : List PyData} {env env' : VEnv}, tgEs is xs env = some env' → ∀ (i : Nat) (r : RV), env'[i]? = some (some r) → r.own = true → i ∉ is ∧ env[i]? = some (some r)
  | [], [], env, env', e, i, r, ei, _ => by cases e; exact ⟨by simp, ei⟩
  | [], _ :: _, env, env', e, i, r, ei, _ => by cases e
  | _ :: _, [], env, env', e, i, r, ei, _ => by cases e
  | j :: is, x :: xs, env, env', e, i, r, ei, o => by
    unfold tgEs at e
    split at e
    · rename_i hj
      obtain ⟨h1, h2⟩ := tgEs_own e i r ei o
      by_cases h : j = i
      · subst h
        rw [List.getElem?_set_self hj] at h2
        cases h2
        cases o
      · rw [List.getElem?_set_ne h] at h2
        exact ⟨by simp only [List.mem_cons, not_or]; exact ⟨fun z => h z.symm, h1⟩, h2⟩
    · cases e
theorem tgE_own {tg : Tg} {x : PyData} {env env' : VEnv} (e : tgE tg x env = some env') {i : Nat} {r : RV} (ei : env'[i]? = some (some r)) (o : r.own = true) : i ∉ tgIx tg ∧ env[i]? = some (some r) := by
  cases tg with
  | nm j =>
    by_cases hj : j < env.length
    · have e' : some (env.set j (some (.d x))) = some env' := by simpa [tgE, hj] using e
      cases e'
      by_cases h : j = i
      · subst h
        rw [List.getElem?_set_self hj] at ei
        cases ei
        cases o
      · rw [List.getElem?_set_ne h] at ei
        exact ⟨by simp [tgIx]; exact fun z => h z.symm, ei⟩
    · have e' : (none : Option VEnv) = some env' := by simpa [tgE, hj] using e
      cases e'
  | tp is =>
    cases x with
    | tuple xs => exact tgEs_own e i r ei o
    | _ => cases e
theorem tgSt_get {tg : Tg} {v : V} {vs : List V} {σ : L2.St} {i : Nat} (h : i ∉ tgIx tg) : (tgSt tg v vs σ)[i]? = σ[i]? := by
  cases tg with
  | nm j => show (σ.set j _)[i]? = _; rw [List.getElem?_set_ne (fun z => h (by subst z; simp [tgIx]))]
  | tp is => exact setAll_get is vs σ i h
theorem aw_tg {tg : Tg} {x : PyData} {v : V} {vs : List V} {env env' : VEnv} {σ : L2.St} {D : Addr} {H1 : Hp} (h : Aw H1 env σ D) (e : tgE tg x env = some env') : Aw H1 env' (tgSt tg v vs σ) D := fun i r p ei o es => by
  obtain ⟨h1, h2⟩ := tgE_own e ei o
  rw [tgSt_get h1] at es
  exact h i r p h2 o es
theorem aw_drop {env : VEnv} {σ : L2.St} {D : Addr} {H1 : Hp} (h : Aw H1 env σ D) (j : Nat) : Aw H1 (env.set j none) (σ.set j none) D := fun i r p ei o es => by
  by_cases hj : j = i
  · subst hj
    by_cases hl : j < env.length
    · rw [List.getElem?_set_self hl] at ei; cases ei
    · rw [List.getElem?_eq_none (by simpa using hl)] at ei; cases ei
  · rw [List.getElem?_set_ne hj] at ei es
    exact h i r p ei o es
theorem aw_wipe {env : VEnv} {σ : L2.St} {D : Addr} {H1 : Hp} (h : Aw H1 env σ D) : ∀ own : List Nat, Aw H1 (wipeE env own) (wipe σ own) D
  | [] => h
  | j :: own => aw_drop (aw_wipe h own) j
theorem StOk.aw0 {K : PySem.W.Frag} {B : Base} {F H : Hp} {env : VEnv} {σ : L2.St} {D : Addr} (st : StOk K ca B F env σ H) (n : H D = none) : Aw H env σ D := fun i r p ei o es => by
  obtain ⟨v, e1, q⟩ := st.sl i r ei
  rw [es] at e1
  cases e1
  refine ⟨fun z => ?_, fun me x fs er => ?_⟩
  · obtain ⟨_, _, u, hp⟩ := own_some o q
    rw [z, n] at hp; cases hp
  · subst er
    have h := st.obAt ei es
    obtain ⟨C, dx, vs, hi⟩ := h.ins
    refine ⟨C, dx, vs, hi, fun hD => ?_⟩
    rw [← fla_eq fs hi] at hD
    obtain ⟨_, _, ws, hl⟩ := h.at hD
    rw [n] at hl; cases hl
def lc2F (tg : Tg) (t : VEnv → Rs Bool) (src1 : VEnv → Rs (List PyData)) (own1 : List Nat) (tg1 : Tg) (t1 : VEnv → Rs Bool) (fe : VEnv → Rs RV) (env : VEnv) : List PyData → Rs (List PyData)
  | [] => .ok []
  | x :: xs => match tgE tg x env with
    | none => .no
    | some e1 => match t e1 with
      | .ok true => (match src1 e1 with
        | .ok ys => (match lcF tg1 t1 fe (wipeE e1 own1) ys with
          | .ok rs => (match lc2F tg t src1 own1 tg1 t1 fe env xs with
            | .ok rs' => .ok (rs ++ rs')
            | _ => .no)
          | _ => .no)
        | _ => .no)
      | .ok false => lc2F tg t src1 own1 tg1 t1 fe env xs
      | _ => .no
def cLc2 (src : VEnv → Rs (List PyData)) (own : List Nat) (tg : Tg) (t : VEnv → Rs Bool) (src1 : VEnv → Rs (List PyData)) (own1 : List Nat) (tg1 : Tg) (t1 : VEnv → Rs Bool) (fe : VEnv → Rs RV) : VEnv → Rs RV := fun env => (src env).bind fun xs => match lc2F tg t src1 own1 tg1 t1 fe (wipeE env own) xs with
  | .ok ds => if ds.length ≤ 1000000 then .ok (.ol ds) else .no
  | _ => .no
theorem snd_lc2 {K : PySem.W.Frag} {wi wi1 : TI} {tt tt1 : TT} {te : TE} {src src1 : VEnv → Rs (List PyData)} {own own1 : List Nat} {tg tg1 : Tg} {t t1 : VEnv → Rs Bool} {fe : VEnv → Rs RV} (ho : ∀ i ∈ tgIx tg, i ∈ own) (ho1 : ∀ i ∈ tgIx tg1, i ∈ own1) (si : SndJ K ca W wi src) (s1 : SndT K ca W0 tt t)
    (si1 : SndI K ca W0 wi1 src1) (s3 : SndT K ca W0 tt1 t1) (s2 : SndE K ca W0 te fe) :
    SndE K ca W (tLc2 wi (tgT K tg) tt wi1 (tgT K tg1) tt1 te own own1) (cLc2 src own tg t src1 own1 tg1 t1 fe) := by
  intro B F env σ H Q st p
  refine si B F env σ H _ st ?_
  unfold cLc2 at p
  cases e : src env with
  | no => rw [e] at p; exact p
  | ex c fs => rw [e] at p; exact p
  | ok xs =>
    rw [e] at p
    simp only [Rs.bind_ok] at p
    cases e2 : lc2F tg t src1 own1 tg1 t1 fe (wipeE env own) xs with
    | no => rw [e2] at p; exact p.elim
    | ex c fs => rw [e2] at p; exact p.elim
    | ok res =>
      rw [e2] at p
      simp only at p
      split at p
      · rename_i hz
        intro J F1 H1 vs g1 d1 jw D nD
        have stw : StOk K ca B F1 (wipeE env own) (wipe σ own) H1 := wipe_ok (st.grow g1) own
        have fD : F1 D = none := same_none g1.cfg.sub nD
        have n0 : B.H D = none := none_n st.gr.hh (none_n g1.hh nD)
        have awD : Aw H1 (wipeE env own) (wipe σ own) D := stw.aw0 nD
        refine ⟨fun i m H => m = vs.length - i ∧ i ≤ vs.length ∧ ∃ F' acc ds rs, Grow F1 H1 F' H ∧ F' D = none ∧ H D = some (.lst acc) ∧ DqA K F' acc ds ∧ lc2F tg t src1 own1 tg1 t1 fe (wipeE env own) (xs.drop i) = .ok rs ∧ ds ++ rs = res,
          ⟨_, rfl, Nat.zero_le _, F1, [], [], res, Grow.newO g1.cfg _ nD (fun _ z => by cases z), fD, upd_same, .nil, e2, rfl⟩, ?_⟩
        rintro i m H2 ⟨rfl, hi, F2, acc, ds, rs, g2, f2, hD, q2, er, es⟩
        by_cases hlt : i < vs.length
        · obtain ⟨x, hx, qx⟩ := DqA.get' d1 (List.getElem?_eq_getElem hlt)
          rw [drop_cons hx] at er
          unfold lc2F at er
          refine .inr ⟨jw.go i H2 g2.hh hlt, fun H => i + 1 ≤ vs.length ∧ ∃ F' acc ds rs, Grow F1 H1 F' H ∧ F' D = none ∧ H D = some (.lst acc) ∧ DqA K F' acc ds ∧ lc2F tg t src1 own1 tg1 t1 fe (wipeE env own) (xs.drop (i + 1)) = .ok rs ∧ ds ++ rs = res,
            fun H' z => ⟨vs.length - (i + 1), by omega, rfl, z.1, z.2⟩, fun y H' hy => ?_⟩
          obtain ⟨rfl, e5⟩ := jw.yld i H2 y H' g2.hh hy hlt
          rw [List.getElem?_eq_getElem hlt] at e5
          cases e5
          cases e3 : tgE tg x (wipeE env own) with
          | none => rw [e3] at er; cases er
          | some env3 =>
            rw [e3] at er
            simp only at er
            refine snd_tg (stw.grow g2) (qx.mono g2.ff) e3 fun ws st3 => ⟨tgSt_wipe ho, ?_⟩
            have aw3 := aw_tg (v := vs[i]) (vs := ws) awD e3
            generalize tgSt tg vs[i] ws (wipe σ own) = σ3 at st3 aw3 ⊢
            refine s1 B F2 env3 _ _ _ st3 ?_
            cases e4 : t env3 with
            | no => rw [e4] at er; cases er
            | ex c fs => rw [e4] at er; cases er
            | ok b =>
              rw [e4] at er
              intro F4 H4 g4
              have f4 : F4 D = none := g4.stillFree f2 hD
              cases b with
              | false =>
                rw [if_neg Bool.false_ne_true]
                exact ⟨hlt, F4, acc, ds, rs, g2.trans g4, f4, g4.hh _ _ hD, DqA.mono g4.ff _ _ q2, er, es⟩
              | true =>
                rw [if_pos rfl]
                simp only at er
                refine si1 B F4 env3 _ H4 _ (st3.grow g4) ?_
                cases e6 : src1 env3 with
                | no => rw [e6] at er; cases er
                | ex c fs => rw [e6] at er; cases er
                | ok ys =>
                  rw [e6] at er
                  simp only at er
                  cases e7 : lcF tg1 t1 fe (wipeE env3 own1) ys with
                  | no => rw [e7] at er; cases er
                  | ex c fs => rw [e7] at er; cases er
                  | ok rs1 =>
                    rw [e7] at er
                    simp only at er
                    cases e8 : lc2F tg t src1 own1 tg1 t1 fe (wipeE env own) (xs.drop (i + 1)) with
                    | no => rw [e8] at er; cases er
                    | ex c fs => rw [e8] at er; cases er
                    | ok rs2 =>
                      rw [e8] at er
                      simp only [Rs.ok.injEq] at er
                      intro J1 F5 H5 us g5 d5 jw1
                      have f5 : F5 D = none := g5.stillFree f4 (g4.hh _ _ hD)
                      have st5 : StOk K ca B F5 (wipeE env3 own1) (wipe σ3 own1) H5 := wipe_ok ((st3.grow g4).grow g5) own1
                      have aw5 : Aw H1 (wipeE env3 own1) (wipe σ3 own1) D := aw_wipe aw3 own1
                      refine ⟨fun j k H => k = us.length - j ∧ j ≤ us.length ∧ ∃ F' acc ds rs, Grow F1 H1 F' H ∧ Same F5 F' ∧ StOk K ca B F' (wipeE env3 own1) (wipe σ3 own1) H ∧ F' D = none ∧ H D = some (.lst acc) ∧ DqA K F' acc ds ∧ lcF tg1 t1 fe (wipeE env3 own1) (ys.drop j) = .ok rs ∧ ds ++ rs ++ rs2 = res,
                        ⟨_, rfl, Nat.zero_le _, F5, acc, ds, rs1, (g2.trans g4).trans g5, Same.refl _, st5, f5, g5.hh _ _ (g4.hh _ _ hD), DqA.mono g5.ff _ _ (DqA.mono g4.ff _ _ q2), e7, by rw [List.append_assoc, er, es]⟩, ?_⟩
                      rintro j k H6 ⟨rfl, hj, F6, acc6, ds6, rs6, g6, s6, st6, f6, hD6, q6, er6, es6⟩
                      have s56 : Same F5 H6 := s6.trans g6.cfg.sub
                      by_cases hlj : j < us.length
                      · obtain ⟨y, hy', qy⟩ := DqA.get' d5 (List.getElem?_eq_getElem hlj)
                        rw [drop_cons hy'] at er6
                        unfold lcF at er6
                        refine .inr ⟨jw1.go j H6 s56.n hlj, fun H => j + 1 ≤ us.length ∧ ∃ F' acc ds rs, Grow F1 H1 F' H ∧ Same F5 F' ∧ StOk K ca B F' (wipeE env3 own1) (wipe σ3 own1) H ∧ F' D = none ∧ H D = some (.lst acc) ∧ DqA K F' acc ds ∧ lcF tg1 t1 fe (wipeE env3 own1) (ys.drop (j + 1)) = .ok rs ∧ ds ++ rs ++ rs2 = res,
                          fun H' z => ⟨us.length - (j + 1), by omega, rfl, z.1, z.2⟩, fun y' H7 hy7 => ?_⟩
                        obtain ⟨rfl, e9⟩ := jw1.yld j H6 y' H7 s56.n hy7 hlj
                        rw [List.getElem?_eq_getElem hlj] at e9
                        cases e9
                        cases e10 : tgE tg1 y (wipeE env3 own1) with
                        | none => rw [e10] at er6; cases er6
                        | some env7 =>
                          rw [e10] at er6
                          simp only at er6
                          refine snd_tg st6 (qy.mono s6) e10 fun ws1 st7 => ⟨tgSt_wipe ho1, ?_⟩
                          refine s3 B F6 env7 _ _ _ st7 ?_
                          cases e11 : t1 env7 with
                          | no => rw [e11] at er6; cases er6
                          | ex c fs => rw [e11] at er6; cases er6
                          | ok b =>
                            rw [e11] at er6
                            intro F8 H8 g8
                            have f8 : F8 D = none := g8.stillFree f6 hD6
                            cases b with
                            | false =>
                              rw [if_neg Bool.false_ne_true]
                              exact ⟨hlj, F8, acc6, ds6, rs6, g6.trans g8, s6.trans g8.ff, st6.grow g8, f8, g8.hh _ _ hD6, DqA.mono g8.ff _ _ q6, er6, es6⟩
                            | true =>
                              rw [if_pos rfl]
                              simp only at er6
                              refine s2 B F8 env7 _ H8 _ (st7.grow g8) ?_
                              cases e12 : fe env7 with
                              | no => rw [e12] at er6; cases er6
                              | ex c fs => rw [e12] at er6; cases er6
                              | ok r =>
                                rw [e12] at er6
                                simp only at er6
                                cases e13 : r.toD with
                                | none => rw [e13] at er6; cases er6
                                | some d =>
                                  rw [e13] at er6
                                  simp only at er6
                                  cases e14 : lcF tg1 t1 fe (wipeE env3 own1) (ys.drop (j + 1)) with
                                  | no => rw [e14] at er6; cases er6
                                  | ex c fs => rw [e14] at er6; cases er6
                                  | ok rs9 =>
                                    rw [e14] at er6
                                    simp at er6
                                    intro F9 H9 v9 g9 q9
                                    obtain ⟨F10, g10, s10, q10⟩ := frz g9 (Fz.of q9 e13)
                                    have g68 : Grow _ _ F10 H9 := g8.trans g10
                                    have h9 : H9 D = some (.lst acc6) := g10.hh _ _ (g8.hh _ _ hD6)
                                    have f10 : F10 D = none := g10.stillFree f8 (g8.hh _ _ hD6)
                                    have qa : DqA K F10 acc6 ds6 := DqA.mono g10.ff _ _ (DqA.mono g8.ff _ _ q6)
                                    have al : acc6.length = ds6.length := qa.length
                                    refine ⟨acc6, h9, million ?_, hlj, F10, acc6 ++ [v9], ds6 ++ [d], rs9, (g6.trans g68).write nD f10 h9 (fun _ z => by cases z), s6.trans g68.ff, (st6.grow g68).away (g6.trans g68).hh aw5 n0 f10 h9, f10, upd_same, qa.append (.cons q10 .nil), rfl, ?_⟩
                                    · have := congrArg List.length es6
                                      simp at this
                                      omega
                                    · rw [← es6, ← er6]
                                      simp
                      · have e15 : j = us.length := by omega
                        subst e15
                        rw [List.drop_eq_nil_of_le (by rw [d5.length]; exact Nat.le_refl _)] at er6
                        cases er6
                        rw [List.append_nil] at es6
                        exact .inl ⟨jw1.stop H6 s56.n, hlt, F6, acc6, ds6, rs2, g6, f6, hD6, q6, rfl, es6⟩
        · have e5 : i = vs.length := by omega
          subst e5
          rw [List.drop_eq_nil_of_le (by rw [d1.length]; exact Nat.le_refl _)] at er
          cases er
          rw [List.append_nil] at es
          subst es
          exact .inl ⟨jw.stop H2 g2.hh, p F2 H2 (.ref D) (g1.trans g2) ⟨D, acc, rfl, none_n g1.hh nD, f2, hD, q2⟩⟩
      · exact p.elim
def tUI (K : PySem.W.Frag) (ca : CA) (W : WX) (f : VEnv → Rs (List PyData)) : TI := fun σ H R => ∃ B F env, StOk K ca B F env σ H ∧ PostI K ca W σ F H R (f env)
theorem VI.pi {tg iter : Expr} {f : VEnv → Rs (List PyData)} (h : VI ca W X tg iter f) : PI X tg iter (tUI X.K ca W f) := by
  obtain ⟨t, p, s⟩ := h
  exact ⟨fun pins s0 σ H R I ⟨B, F, env, st, q⟩ => p.run pins s0 σ H R I (s B F env σ H R st q)⟩
theorem ve_lc2 {elt tg iter tg1 iter1 : Expr} {ifs ifs1 : List Expr} {scope : Scope} {own : List (Str × Nat)} {vs1 : List Nat} {src src1 : VEnv → Rs (List PyData)} {g g1 : Tg} {t t1 : VEnv → Rs Bool} {fe : VEnv → Rs RV} (hc : X.calm = true) (hN : X.N.Nodup) (hi : VJ ca W X tg iter src) (ok : BlkOk X.N X.env.scope scope own) (ho : ∀ i ∈ tgIx g, i ∈ own.map (·.2)) (hv : ∀ i ∈ vs1, i ∈ own.map (·.2)) (ho1 : ∀ i ∈ tgIx g1, i ∈ vs1)
    (hg : ∀ (s : Shared) (H : Hp) (C : Addr) (cl : List (Str × Addr)) (fp : List Addr), VG (X.blk s H scope (compEnvC scope cl C X.env) fp) tg g) (ht : ∀ (s : Shared) (H : Hp) (C : Addr) (cl : List (Str × Addr)) (fp : List Addr), VTs ca W0 (X.blk s H scope (compEnvC scope cl C X.env) fp) ifs t)
    (hi1 : ∀ (s : Shared) (H : Hp) (C : Addr) (cl : List (Str × Addr)) (fp : List Addr), VI ca W0 (X.blk s H scope (compEnvC scope cl C X.env) fp) tg1 iter1 src1)
    (hg1 : ∀ (s : Shared) (H : Hp) (C : Addr) (cl : List (Str × Addr)) (fp : List Addr), VG (X.blk s H scope (compEnvC scope cl C X.env) fp) tg1 g1) (ht1 : ∀ (s : Shared) (H : Hp) (C : Addr) (cl : List (Str × Addr)) (fp : List Addr), VTs ca W0 (X.blk s H scope (compEnvC scope cl C X.env) fp) ifs1 t1)
    (he : ∀ (s : Shared) (H : Hp) (C : Addr) (cl : List (Str × Addr)) (fp : List Addr), VE ca W0 (X.blk s H scope (compEnvC scope cl C X.env) fp) elt fe) (hs : ∀ x, foldedSetIterable iter X.env x = pure x := by intro _; rfl) (hs1 : ∀ env x, foldedSetIterable iter1 env x = pure x := by intro _ _; rfl) :
    VE ca W X (.ListComp elt [⟨tg, iter, ifs, 0⟩, ⟨tg1, iter1, ifs1, 0⟩] scope pos) (cLc2 src (own.map (·.2)) g t src1 vs1 g1 t1 fe) := by
  obtain ⟨wi, pi, si⟩ := hi
  exact ⟨_, pe_lc2 hc hN pi ok hv (fun s H C cl fp => (show PG _ tg (tgT X.K g) from (hg s H C cl fp).ex)) (fun s H C cl fp => (show PTs _ ifs (tUT X.K ca W0 t) from (ht s H C cl fp).pt)) (fun s H C cl fp => (show PI _ tg1 iter1 (tUI X.K ca W0 src1) from (hi1 s H C cl fp).pi)) (fun s H C cl fp => (show PG _ tg1 (tgT X.K g1) from (hg1 s H C cl fp).ex)) (fun s H C cl fp => (show PTs _ ifs1 (tUT X.K ca W0 t1) from (ht1 s H C cl fp).pt)) (fun s H C cl fp => (show PE _ elt (tU X.K ca W0 fe) from (he s H C cl fp).pe)) hs hs1,
    snd_lc2 ho ho1 si (fun B F env σ H Q st q => ⟨B, F, env, st, q⟩ : SndT X.K ca W0 (tUT X.K ca W0 t) t) (fun B F env σ H R st q => ⟨B, F, env, st, q⟩ : SndI X.K ca W0 (tUI X.K ca W0 src1) src1) (fun B F env σ H Q st q => ⟨B, F, env, st, q⟩ : SndT X.K ca W0 (tUT X.K ca W0 t1) t1) (fun B F env σ H Q st q => ⟨B, F, env, st, q⟩ : SndE X.K ca W0 (tU X.K ca W0 fe) fe)⟩
theorem vs_setLc2 {i : Nat} {y : Str} {py : Pos} {elt tg iter tg1 iter1 : Expr} {ifs ifs1 : List Expr} {scope : Scope} {own : List (Str × Nat)} {vs1 : List Nat} {spos : Pos} {src src1 : VEnv → Rs (List PyData)} {g g1 : Tg} {t t1 : VEnv → Rs Bool} {fe : VEnv → Rs RV} (hc : X.calm = true) (hN : X.N.Nodup) (hy : X.N[i]? = some y) (hyl : X.env.scope.names.lookup y = some .local)
    (hsw : swapsWith (.ListComp elt [⟨tg, iter, ifs, 0⟩, ⟨tg1, iter1, ifs1, 0⟩] scope pos) (some (.Name y py)) spos.line X.env = pure true) (hi : VJ ca W X tg iter src) (ok : BlkOk X.N X.env.scope scope own) (ho : ∀ i ∈ tgIx g, i ∈ own.map (·.2)) (hv : ∀ i ∈ vs1, i ∈ own.map (·.2)) (ho1 : ∀ i ∈ tgIx g1, i ∈ vs1)
    (hg : ∀ (s : Shared) (H : Hp) (C : Addr) (cl : List (Str × Addr)) (fp : List Addr), VG (X.blk s H scope (compEnvC scope cl C X.env) fp) tg g) (ht : ∀ (s : Shared) (H : Hp) (C : Addr) (cl : List (Str × Addr)) (fp : List Addr), VTs ca W0 (X.blk s H scope (compEnvC scope cl C X.env) fp) ifs t)
    (hi1 : ∀ (s : Shared) (H : Hp) (C : Addr) (cl : List (Str × Addr)) (fp : List Addr), VI ca W0 (X.blk s H scope (compEnvC scope cl C X.env) fp) tg1 iter1 src1)
    (hg1 : ∀ (s : Shared) (H : Hp) (C : Addr) (cl : List (Str × Addr)) (fp : List Addr), VG (X.blk s H scope (compEnvC scope cl C X.env) fp) tg1 g1) (ht1 : ∀ (s : Shared) (H : Hp) (C : Addr) (cl : List (Str × Addr)) (fp : List Addr), VTs ca W0 (X.blk s H scope (compEnvC scope cl C X.env) fp) ifs1 t1)
    (he : ∀ (s : Shared) (H : Hp) (C : Addr) (cl : List (Str × Addr)) (fp : List Addr), VE ca W0 (X.blk s H scope (compEnvC scope cl C X.env) fp) elt fe) (hs : ∀ x, foldedSetIterable iter X.env x = pure x := by intro _; rfl) (hs1 : ∀ env x, foldedSetIterable iter1 env x = pure x := by intro _ _; rfl) :
    VS ca W X (.Assign [.Name y py] (.ListComp elt [⟨tg, iter, ifs, 0⟩, ⟨tg1, iter1, ifs1, 0⟩] scope pos) spos) (sSet i (cLc2 src (own.map (·.2)) g t src1 vs1 g1 t1 fe)) := by
  obtain ⟨wi, pi, si⟩ := hi
  refine ⟨_, ps_setLc2 hc hN hy hyl hsw pi ok hv (fun s H C cl fp => (show PG _ tg (tgT X.K g) from (hg s H C cl fp).ex)) (fun s H C cl fp => (show PTs _ ifs (tUT X.K ca W0 t) from (ht s H C cl fp).pt)) (fun s H C cl fp => (show PI _ tg1 iter1 (tUI X.K ca W0 src1) from (hi1 s H C cl fp).pi)) (fun s H C cl fp => (show PG _ tg1 (tgT X.K g1) from (hg1 s H C cl fp).ex)) (fun s H C cl fp => (show PTs _ ifs1 (tUT X.K ca W0 t1) from (ht1 s H C cl fp).pt)) (fun s H C cl fp => (show PE _ elt (tU X.K ca W0 fe) from (he s H C cl fp).pe)) hs hs1, fun B F env σ H D st p => ?_⟩
  have se := snd_lc2 (own := own.map (·.2)) (own1 := vs1) (W := W) ho ho1 si (fun B F env σ H Q st q => ⟨B, F, env, st, q⟩ : SndT X.K ca W0 (tUT X.K ca W0 t) t) (fun B F env σ H R st q => ⟨B, F, env, st, q⟩ : SndI X.K ca W0 (tUI X.K ca W0 src1) src1) (fun B F env σ H Q st q => ⟨B, F, env, st, q⟩ : SndT X.K ca W0 (tUT X.K ca W0 t1) t1) (fun B F env σ H Q st q => ⟨B, F, env, st, q⟩ : SndE X.K ca W0 (tU X.K ca W0 fe) fe)
  show tLc2 wi (tgT X.K g) (tUT X.K ca W0 t) (tUI X.K ca W0 src1) (tgT X.K g1) (tUT X.K ca W0 t1) (tU X.K ca W0 fe) (own.map (·.2)) vs1 σ H fun x H1 => gName i x σ H1 D.nx
  exact outE se st p fun r F1 H1 v p1 g q => snd_put st g q p1
section
variable (src : VEnv → Rs (List PyData)) (own : List Nat) (tg : Tg) (t : VEnv → Rs Bool) (src1 : VEnv → Rs (List PyData)) (own1 : List Nat) (tg1 : Tg) (t1 : VEnv → Rs Bool) (fa : VEnv → Rs RV) (env : VEnv)
theorem e_lc2 : cLc2 src own tg t src1 own1 tg1 t1 fa env = (src env).bind fun xs => match lc2F tg t src1 own1 tg1 t1 fa (wipeE env own) xs with
  | .ok ds => if ds.length ≤ 1000000 then .ok (.ol ds) else .no
  | _ => .no := rfl
end
end VL

namespace VL
open PySem PySem.Spec PyProof.Rows L2 HT
/-! ## sorted lists of tuples of ints, empty ones among them: any kind of comparison -/
theorem lexLt_lxB : ∀ a b : List Int, lexLt a b = lxB a b
  | [], [] => rfl
  | [], _ :: _ => rfl
  | _ :: _, [] => rfl
  | x :: xs, y :: ys => by
    rw [lexLt_cons, lexLt_lxB xs ys]
    conv => rhs; unfold lxB
section
variable {prog : Program} {w : World} {A : Around} {s : Shared} {E : Value → Shared → Prop}
theorem slotLt {x y : Value} {ns ms : List Int} {Q : Bool → Shared → Prop} (hx : TS.TupInts s.heap x ns) (hy : TS.TupInts s.heap y ms) (room : A.units < cLine) (hq : Q (lxB ns ms) s) : wpAny (model prog w) A (oneLt' true x y) Q E s := by
  obtain ⟨l, vs, rfl, hl, hi⟩ := hx
  obtain ⟨b, us, rfl, hb, hj⟩ := hy
  obtain ⟨⟨c1, d1, p1, sl1⟩, o1, q1, n1, r1⟩ := id hl
  obtain ⟨⟨c2, d2, p2, sl2⟩, o2, q2, n2, r2⟩ := id hb
  simp only at q1 r1 q2 r2
  subst q1 r1 q2 r2
  rw [oneLt'_eq]
  simp only [if_true]
  refine wpAny_bind (wpAny_cRoomFor room ?_)
  refine wpAny_bind (wpAny_callSpecialIfBound?_slot (T := "tuple") ⟨_, o1, rfl⟩ PySem.F.slot_tuple_lt (call_meets PySem.F.slot_tuple_lt ⟨_, o1, rfl⟩ PySem.F.entry_tuple_lt (PySem.F.args_tuple_lt_2 _ _) (tuple_lt_ints l b vs us n1 n2 d1 d2 sl1 sl2 ns ms hi hj) ⟨o1, o2, ?_⟩))
  rw [lexLt_lxB]
  exact wpAny_truthy_bool hq
theorem richLt {x y : Value} {ns ms : List Int} {Q : Bool → Shared → Prop} (hx : TS.TupInts s.heap x ns) (hy : TS.TupInts s.heap y ms) (room : A.units < cLine) (hq : Q (lxB ns ms) s) : wpAny (model prog w) A (oneLt' false x y) Q E s := by
  obtain ⟨l, vs, rfl, hl, hi⟩ := hx
  obtain ⟨b, us, rfl, hb, hj⟩ := hy
  refine PySem.W.kat_one _ _ (lt_tupInts hl hb hi hj room ?_)
  rw [lexLt_lxB]
  exact hq
/-- the first elements, where there are some -/
theorem firsts_some {A : Around} : ∀ (vs : List Value) {k : Value → List Int}, (∀ v ∈ vs, TS.TupInts s.heap v (k v)) → ∃ os : List (Option Value), os.length = vs.length ∧ (∀ (i : Nat) (v : Value), vs[i]? = some v → ∃ o : Option Value, os[i]? = some o ∧ (o.isSome = true ↔ k v ≠ [])) ∧
    ∀ {M : Model} {Q : List (Option Value) → Shared → Prop} {E : Value → Shared → Prop}, Q os s → wpAny M A (vs.mapM firstOfTuple') Q E s
  | [], k, _ => ⟨[], rfl, fun i v h => by simp at h, fun h => by rw [List.mapM_nil]; exact wpAny_pure h⟩
  | v :: vs, k, hp => by
    obtain ⟨os, l1, h1, h2⟩ := firsts_some vs (k := k) fun u hu => hp u (List.mem_cons_of_mem _ hu)
    obtain ⟨a, xs, rfl, ⟨o, ho, hc, n, hd⟩, hi⟩ := hp v List.mem_cons_self
    refine ⟨xs[0]? :: os, by simp [l1], fun i u hu => ?_, fun {M Q E} hq => ?_⟩
    · cases i with
      | zero =>
        obtain rfl : Value.ref a = u := by simpa using hu
        refine ⟨_, rfl, ?_⟩
        have l := hi.length
        rw [Array.length_toList] at l
        rw [Option.isSome_iff_ne_none]
        constructor
        · intro z e
          apply z
          rw [e] at l
          exact Array.getElem?_eq_none (by simpa using Nat.le_of_eq l)
        · intro z e
          have := Array.getElem?_eq_none_iff.mp e
          have l0 : (k (.ref a)).length = 0 := by omega
          exact z (List.length_eq_zero_iff.mp l0)
      | succ i => exact h1 i u (by simpa using hu)
    · rw [List.mapM_cons]
      refine wpAny_bind ?_
      rw [PySem.W.kas_first_eq]
      refine wpAny_bind (PySem.W.Looks.here (show PySem.W.Looks M s.heap (typeOf (.ref a)) o.cls from (PySem.W.Looks.ld ho).andThen .now) ?_)
      have ne : (o.cls != Value.type "tuple") = false := by rw [hc]; decide +kernel
      rw [ne, if_neg Bool.false_ne_true]
      refine wpAny_bind (listItems_at ho hd (wpAny_pure ?_))
      exact wpAny_bind (h2 (Q := fun bs s' => wpAny M A (pure (xs[0]? :: bs)) Q E s') (wpAny_pure hq))
theorem kind_mixed {vs : List Value} {k : Value → List Int} (hp : ∀ v ∈ vs, TS.TupInts s.heap v (k v)) (hm : ∃ v ∈ vs, k v = []) : ∃ κ : SortKind, (κ = oneType' ∨ κ = general') ∧ ∀ (M : Model) (Q : SortKind → Shared → Prop) (E : Value → Shared → Prop), Q κ s → wpAny M A (keyKind' vs.toArray) Q E s := by
  obtain ⟨os, l1, h1, h2⟩ := firsts_some (A := A) vs hp
  have na : (os.toArray.all fun x => x.isSome) = false := by
    obtain ⟨v, hv, e⟩ := hm
    obtain ⟨i, hi, rfl⟩ := List.getElem_of_mem hv
    obtain ⟨o, ho, hs⟩ := h1 i vs[i] (List.getElem?_eq_getElem hi)
    have : o.isSome = false := by
      cases h : o.isSome with
      | false => rfl
      | true => exact absurd e (hs.mp h)
    rw [List.all_toArray, List.all_eq_false]
    exact ⟨o, List.mem_of_getElem? ho, by rw [this]; simp⟩
  refine ⟨if (os.toArray[0]?.bind id).isSome then general' else oneType', by split <;> simp, fun M Q E hq => ?_⟩
  rw [keyKind'_eq, List.mapM_toArray, map_eq_pure_bind]
  refine wpAny_bind (wpAny_bind (h2 (wpAny_pure ?_)))
  rw [na, if_neg Bool.false_ne_true]
  split
  · rename_i c
    rw [if_pos c] at hq
    exact wpAny_pure hq
  · rename_i c
    rw [if_neg c] at hq
    rw [oneTypeOnly'_eq, List.mapM_toArray, map_eq_pure_bind]
    refine wpAny_bind (wpAny_bind (wpAny_bind (PySem.W.kas_mapM (r := Value.type "tuple") _ (fun v hv Q' hq' => ?_) (wpAny_pure ?_))))
    · obtain ⟨a, xs, rfl, ⟨o, ho, hc, n, hd⟩, hi⟩ := hp v hv
      rw [← hc] at hq'
      exact PySem.W.Looks.here (show PySem.W.Looks M s.heap (typeOf (.ref a)) o.cls from (PySem.W.Looks.ld ho).andThen .now) hq'
    · have h0 : (List.map (fun _ => Value.type "tuple") vs).toArray[0]? = some (Value.type "tuple") := by
        obtain ⟨v, hv, _⟩ := hm
        cases vs with
        | nil => cases hv
        | cons x xs => simp
      have hall : ((List.map (fun _ => Value.type "tuple") vs).toArray.all fun x => x == Value.type "tuple") = true := by
        rw [List.all_toArray, List.all_eq_true]
        intro x hx
        obtain ⟨_, _, rfl⟩ := List.mem_map.mp hx
        decide +kernel
      rw [h0]
      simp only [hall, if_true]
      exact wpAny_pure (wpAny_pure hq)
theorem any_sortable {a : Addr} {vs : List Value} {k : Value → List Int} (room : A.units < cLine) (h0 : 0 < vs.length) (hp : ∀ v ∈ vs, TS.TupInts s.heap v (k v)) (ha : ∀ o, s.heap.get? a = some o → o.cls ≠ .type "tuple") : SrtO.SortableO prog w A s a vs fun v u => lxB (k v) (k u) := by
  by_cases hne : ∀ v ∈ vs, k v ≠ []
  · exact tups_sortable h0 (fun v hv => ⟨hp v hv, hne v hv⟩) ha
  have hex : ∃ v ∈ vs, k v = [] := by
    obtain ⟨v, e⟩ := Classical.not_forall.mp hne
    obtain ⟨hv, e⟩ := Classical.not_imp.mp e
    exact ⟨v, hv, Classical.not_not.mp e⟩
  intro h' keep
  have hp' : ∀ v ∈ vs, TS.TupInts h' v (k v) := fun v hm => (hp v hm).keeps fun b o e c => keep b o (fun z => by subst z; exact ha o e c) e
  obtain ⟨κ, hκ, hk⟩ := kind_mixed (s := { s with heap := h' }) (A := A) hp' hex
  refine ⟨κ, fun Q E hq => hk _ Q E hq, fun p q hm hm' => ?_⟩
  rcases hκ with rfl | rfl
  · exact slotLt (hp' _ hm) (hp' _ hm') room ⟨rfl, rfl⟩
  · exact richLt (hp' _ hm) (hp' _ hm') room ⟨rfl, rfl⟩
theorem sorted_tupsA {l : Addr} {vs : List Value} {k : Value → List Int} {Q : Value → Shared → Prop} {E : Value → Shared → Prop} (hl : s.heap.IsList l vs.toArray) (hz : vs.length ≤ sizeLine) (hp : ∀ v ∈ vs, TS.TupInts s.heap v (k v)) (room : A.units + 2 < cLine)
    (h : ∀ (h' : Heap) (d : Addr) (out : List Value), SrtO.Srtd (fun v u => lxB (k v) (k u)) out → SrtO.Stb (fun v u => lxB (k v) (k u)) out vs → (∀ b o, s.heap.get? b = some o → h'.get? b = some o) → s.heap.objs.size ≤ d → (∃ n, h'.get? d = some (seqObj "list" out.toArray n)) → Q (.ref d) { s with heap := h' }) :
    wpAny (model prog w) A (call (.builtin "sorted") [.ref l]) Q E s := by
  refine SrtO.sorted_ord (swo_lx k) hl hz (fun h2 h₁ a ha kk => ?_) fun out hs hb => ?_
  · refine any_sortable (s := { s with heap := h₁ }) room (by omega) (fun v hm => (hp v hm).keeps fun b o e _ => (kk b o e).2) fun o e => ?_
    have e' : some o = some (seqObj "list" vs.toArray 0) := e.symm.trans ha
    cases e'
    intro c
    exact absurd (Value.type.inj c) (by decide)
  · exact h _ _ out hs hb (fun b o e => sortedAll_old e) (Nat.le_succ _) (sortedAll_at s.heap vs out.toArray)
end
def rSortedLA (K : PySem.W.Frag) : List V → Hp → VK → Prop := fun vs H Q => ∃ (a : Addr) (xs : List V) (k : V → List Int), vs = [V.ref a] ∧ SqL K H a xs ∧ (∀ x ∈ xs, ∃ t, x = V.ref t ∧ SqT K H t ((k x).map V.int)) ∧
  ∀ ys p, SrtO.Srtd (fun x y => lxB (k x) (k y)) ys → SrtO.Stb (fun x y => lxB (k x) (k y)) ys xs → H p = none → Q (.ref p) (upd H p (.lst ys))
theorem cr_sortedLA {X : Cx} (hu : X.A.units + 65 < cLine) : CallR X (.builtin "sorted") (rSortedLA X.K) := by
  intro pins s σ H vs us Q I r h
  obtain ⟨a, xs, k, rfl, hs, hx, q⟩ := h
  obtain ⟨its, rv, hl, hz⟩ := I.list hs
  obtain ⟨u, rfl, ru⟩ := vals1 r
  obtain rfl : u = Value.ref a := ru
  obtain ⟨e1, e2⟩ := refs_back rv fun x m => by
    obtain ⟨t, e, _⟩ := hx x m
    exact ⟨t, e⟩
  refine sorted_tupsA (k := fun u => k (backV u)) hl.isList (by rw [← rv.length]; exact hz) (fun v hv => ?_) (by omega) fun h' d out h1 h2 kp hd hn => ?_
  · obtain ⟨t, rfl⟩ := e2 v hv
    have hm : V.ref t ∈ xs := by rw [e1]; exact List.mem_map.mpr ⟨_, hv, rfl⟩
    obtain ⟨t', e, ht⟩ := hx _ hm
    cases e
    obtain ⟨its2, r2, hT, _⟩ := I.tuple ht
    exact ⟨t, its2.toArray, rfl, hT, by
      have z := ints_are r2
      show IntsAre its2.toArray.toList (k (V.ref t))
      simpa using z⟩
  · have h3 : ∀ u ∈ out, ∃ a, u = Value.ref a := fun u hu => e2 u (h2.perm.mem_iff.mp hu)
    obtain ⟨n, hn⟩ := hn
    have hb : SrtO.Stb (fun x y => lxB (k x) (k y)) (out.map backV) xs := by
      rw [e1]
      exact SrtO.Stb.map (swo_lx k) backV h2
    refine ⟨.ref d, upd H d (.lst (out.map backV)), I.laid (t' := s.toks) kp hd ⟨?_, out, n, vals_back h3, hn⟩, rfl, q _ d (SrtO.srtd_map h1) hb (I.hok.fresh hd)⟩
    rw [hb.len]
    exact hz
def rSortedRowsA (K : PySem.W.Frag) : List V → Hp → VK → Prop := fun vs H Q => ∃ (a : Addr) (xs : List V) (rows : List (List Int)) (P : V → List Int → Prop), vs = [V.ref a] ∧ SqL K H a xs ∧ (∀ x ns, P x ns → TupR K H x ns) ∧ Paired P xs rows ∧
  ∀ (ys : List V) (rows' : List (List Int)) p, Paired P ys rows' → rows'.Pairwise (fun a b => lxB b a = false) → rows'.Perm rows → H p = none → Q (.ref p) (upd H p (.lst ys))
theorem cr_sortedRowsA {X : Cx} (hu : X.A.units + 65 < cLine) : CallR X (.builtin "sorted") (rSortedRowsA X.K) := by
  intro pins s σ H vs us Q I r h
  obtain ⟨a, xs, rows, P, rfl, hs, hT, hp, q⟩ := h
  obtain ⟨k, hk⟩ : ∃ k : V → List Int, ∀ x ns, TupR X.K H x ns → k x = ns := by
    classical
    refine ⟨fun x => if h : ∃ ns, TupR X.K H x ns then Classical.choose h else [], fun x ns hx => ?_⟩
    have hex : ∃ ns, TupR X.K H x ns := ⟨ns, hx⟩
    have e := Classical.choose_spec hex
    simp only [dif_pos hex]
    generalize Classical.choose hex = ms at e ⊢
    obtain ⟨t, e1, h1⟩ := e
    obtain ⟨t', e2, h2⟩ := hx
    rw [e1] at e2
    cases e2
    exact int_inj (I.tuple_inj h1 h2)
  have km : ∀ {xs : List V} {rows : List (List Int)}, Paired P xs rows → xs.map k = rows ∧ ∀ x ∈ xs, P x (k x) := by
    intro xs rows hp
    induction hp with
    | nil => exact ⟨rfl, fun x hx => by cases hx⟩
    | @cons x ns xs rows h1 _ ih =>
      have e := hk x ns (hT x ns h1)
      refine ⟨by rw [List.map_cons, e, ih.1], fun y hy => ?_⟩
      rcases List.mem_cons.mp hy with rfl | hy
      · rw [e]; exact h1
      · exact ih.2 y hy
  obtain ⟨k1, k2⟩ := km hp
  refine cr_sortedLA hu pins s σ H _ us Q I r ⟨a, xs, k, rfl, hs, fun x hx => hT _ _ (k2 x hx), fun ys p h1 h2 n => q ys (ys.map k) p ?_ (List.pairwise_map.mpr h1) ?_ n⟩
  · have : ∀ y ∈ ys, P y (k y) := fun y hy => k2 y (h2.perm.mem_iff.mp hy)
    clear h1 h2
    induction ys with
    | nil => exact .nil
    | cons y ys ih => exact .cons (this y List.mem_cons_self) (ih fun z hz => this z (List.mem_cons_of_mem _ hz))
  · rw [← k1]
    exact h2.perm.map k
/-- sorted(xs), xs a list of tuples of ints -/
def gSortedA : List RV → Rs RV
  | [r] => (rsO r.qv).bind fun xs => (rsO (tupsI xs)).bind fun rows => .ok (.ol ((isortT rows).map fun r => .tuple (r.map .int)))
  | _ => .no
theorem e_sortedA (r : RV) : gSortedA [r] = (rsO r.qv).bind fun xs => (rsO (tupsI xs)).bind fun rows => .ok (.ol ((isortT rows).map fun r => .tuple (r.map .int))) := rfl
theorem c_sortedA {K : PySem.W.Frag} {ca : CA} : CaS K ca (rSortedRowsA K) gSortedA := by
  intro W σ F0 H0 F H vs as Q gr h p
  unfold gSortedA at p
  split at p
  · rename_i r
    obtain ⟨v, rfl, hx⟩ := pr1 h
    cases e : r.qv with
    | none => rw [e] at p; exact p.elim
    | some xs =>
      rw [e] at p
      simp only [rsO_some, Rs.bind_ok] at p
      cases e2 : tupsI xs with
      | none => rw [e2] at p; exact p.elim
      | some rows =>
        rw [e2] at p
        simp only [rsO_some, Rs.bind_ok] at p
        obtain ⟨q, ws, rfl, hq, dq⟩ := qv_ok gr.cfg.sub hx e
        refine ⟨q, ws, rows, TupN K F, rfl, hq, fun x ns ⟨t, e3, h3⟩ => ⟨t, e3, same_seqT gr.cfg.sub h3.1⟩, tups_ok dq e2, fun ys rows' l py so pm hl => ?_⟩
        have e3 : rows' = isortT rows := sortedT_uniq (pm.trans (isortT_perm rows).symm) so (isortT_sorted rows)
        subst e3
        have g2 := Grow.newO gr.cfg (.lst ys) hl (fun _ z => by cases z)
        exact p _ _ _ (gr.trans g2) ⟨l, _, rfl, none_n gr.hh hl, same_none gr.cfg.sub hl, upd_same, tups_dq py⟩
  · exact p.elim
end VL

namespace VL
open PySem PySem.Spec PyProof.Rows L2
/-! ## is True, is not False -/
def gIsB (a b : RV) : Rs RV := match a, b with
  | .d (.bool x), .d (.bool y) => okB (decide (x = y))
  | _, _ => .no
def gIsNotB (a b : RV) : Rs RV := match a, b with
  | .d (.bool x), .d (.bool y) => okB (!decide (x = y))
  | _, _ => .no
theorem e_isB (x y : Bool) : gIsB (.d (.bool x)) (.d (.bool y)) = .ok (.d (.bool (decide (x = y)))) := rfl
theorem e_isNotB (x y : Bool) : gIsNotB (.d (.bool x)) (.d (.bool y)) = .ok (.d (.bool (!decide (x = y)))) := rfl
theorem s_isB {K : PySem.W.Frag} {ca : CA} : Op2S K ca (fun x y H Q => ∃ a b : Bool, x = .bl a ∧ y = .bl b ∧ Q (.bl (decide (a = b))) H) gIsB := by
  intro W σ F0 H0 F H v1 v2 a b Q gr h1 h2 p
  unfold gIsB at p
  split at p
  · rename_i x y
    cases h1
    cases h2
    exact ⟨x, y, rfl, rfl, p F H _ gr (.bl _)⟩
  · exact p.elim
theorem s_isNotB {K : PySem.W.Frag} {ca : CA} : Op2S K ca (fun x y H Q => ∃ a b : Bool, x = .bl a ∧ y = .bl b ∧ Q (.bl (!decide (a = b))) H) gIsNotB := by
  intro W σ F0 H0 F H v1 v2 a b Q gr h1 h2 p
  unfold gIsNotB at p
  split at p
  · rename_i x y
    cases h1
    cases h2
    exact ⟨x, y, rfl, rfl, p F H _ gr (.bl _)⟩
  · exact p.elim
end VL

namespace VL
open PySem PySem.Spec PyProof.Rows L2
/-! ## a dict whose keys are tuples of ints: its keys walked, the greatest of its values -/
section
variable {X : Cx} {pins : List (Addr × Obj)} {σ : L2.St} {H : Hp} {s : Shared} {d : Addr} {n : Nat} {xs : List (List Int × Addr × Value)}
theorem dto_raw (I : Inv X pins σ H s) (h : H d = some (DTO d (n, xs))) : (d == sysModules) = false ∧ ∃ (o : Obj) (es : Array DictEntry), s.heap.get? d = some o ∧ o.ExactDict ∧ o.data = .dict es n ∧ es.size = xs.length ∧ ∀ (i : Nat) (e : List Int × Addr × Value), xs[i]? = some e → ∃ en : DictEntry, es[i]? = some en ∧ en.key = .ref e.2.1 ∧ en.val = e.2.2 := by
  obtain ⟨⟨o, es, h1, h2, h3, h4, h5, h6, h7⟩, _⟩ := (show ObjOk X.prog X.w H s.heap d (.ext (DTOk d (n, xs))) from I.hok d _ h)
  refine ⟨h7, o, es, h1, h2, h3, ?_, fun i e he => ?_⟩
  · have := congrArg List.length h4
    rw [List.length_map, Array.length_toList] at this
    exact this
  · refine ⟨⟨hashT e.1, .ref e.2.1, e.2.2⟩, ?_, rfl, rfl⟩
    have hx : xs[i]? = some e := he
    rw [← Array.getElem?_toList, h4]
    show ((xs.map _)[i]? : Option DictEntry) = _
    rw [List.getElem?_map, hx]
    rfl
end
def ItT (d : Addr) (n : Nat) (xs : List (List Int × Addr × Value)) : It :=
  ⟨fun i H => H d = some (DTO d (n, xs)) ∧ i < xs.length, fun i H x H' => H' = H ∧ ∃ e, xs[i]? = some e ∧ x = .ref e.2.1, fun i H => H d = some (DTO d (n, xs)) ∧ xs.length ≤ i⟩
theorem turn_dto {P : Program} {w : World} {K : PySem.W.Frag} {tg : Expr} {d : Addr} {n : Nat} {xs : List (List Int × Addr × Value)} (it : Addr) : Turn P w K tg (ItT d n xs) [it] it (fun i h => h.IsKeyIter it d i xs.length n) where
  mem := List.mem_singleton.mpr rfl
  obj := fun i h hit b hb => by
    obtain rfl : b = it := List.mem_singleton.mp hb
    obtain ⟨ob, g1, g2, g3⟩ := hit
    exact ⟨ob, g1, fun v z => nomatch (g3.symm.trans z)⟩
  keep := fun i h h' hit same => hit.at fun ob g => same it (List.mem_singleton.mpr rfl) ob g
  item := by
    intro X hP hw hK hc i pins s σ H E I ff hit hgo
    subst hP hw hK
    obtain ⟨hd, hi⟩ := hgo
    obtain ⟨a0, a1, a2, a3, a4, a5⟩ := ff it (List.mem_singleton.mpr rfl)
    obtain ⟨_, o, es, g1, g2, g3, g4, g5⟩ := dto_raw I hd
    obtain ⟨en, g6, g7, _⟩ := g5 i xs[i] (List.getElem?_eq_getElem hi)
    refine next_key_item hit g1 g3 g4 g6 fun h' hit' same => ?_
    have I1 : Inv X pins σ H { s with heap := h' } := I.turned (t' := s.toks) (fun b ob nb g => (same.2 b nb).trans g) a0 a1 a3 a4 a5
    obtain ⟨oi, q1, q2, q3⟩ := id hit'
    exact ⟨en.key, rfl, go_of (s := { s with heap := h' }) q1 q2 q3 (by decide) ⟨.ref xs[i].2.1, H, I1, g7, ⟨rfl, xs[i], List.getElem?_eq_getElem hi, rfl⟩, hit', fun b hb => (ff b hb).1⟩⟩
  done := by
    intro X hP hw hK hc i pins s σ H E I ff hit hgo
    subst hP hw hK
    obtain ⟨hd, hi⟩ := hgo
    obtain ⟨a0, a1, a2, a3, a4, a5⟩ := ff it (List.mem_singleton.mpr rfl)
    obtain ⟨_, o, es, g1, g2, g3, g4, g5⟩ := dto_raw I hd
    exact next_key_end (I.ok.hd hc) hit g1 g3 g4 hi fun h' eb => ⟨rfl, I.turned (t' := s.toks) (fun b ob nb g => eb b ob nb g) a0 a1 a3 a4 a5⟩
  self := fun A i s Q E hit k => wpAny_pyIter_keyiter hit k
def iKeysO (td : TE) : TI := fun σ H R => td σ H fun x H1 => ∃ d n xs, x = .ref d ∧ H1 d = some (DTO d (n, xs)) ∧ R (ItT d n xs) H1
theorem pi_keysO {X : Cx} {tg e : Expr} {td : TE} (he : PE X e td) : PI X tg e (iKeysO td) := by
  refine ⟨fun pins s σ H R I h => thn (he.run pins s σ H _ I h) fun u s1 ⟨x, H1, I1, rx, d, n, xs, ex, hd, q⟩ => ?_⟩
  subst ex
  obtain rfl : u = Value.ref d := rx
  obtain ⟨g0, o, es, g1, g2, g3, g4, g5⟩ := dto_raw I1 hd
  refine iter_keys g0 g1 g2 g3 (pi_one (tk := s1.toks) I1 _ (turn_dto _) ⟨_, Heap.get?_push_size _ rfl, rfl, ?_⟩ q)
  rw [g4]
  rfl
theorem jw_dto {G : Hp} {d : Addr} {n : Nat} {xs : List (List Int × Addr × Value)} (h : G d = some (DTO d (n, xs))) : JWalk (ItT d n xs) G (xs.map fun e => V.ref e.2.1) where
  go := fun i H s hi => ⟨s _ _ h, by simpa using hi⟩
  yld := fun i H x H' s y hi => by
    obtain ⟨e1, e, e2, e3⟩ := y
    exact ⟨e1, by rw [List.getElem?_map, e2, e3]; rfl⟩
  stop := fun H s => ⟨s _ _ h, by simp⟩
theorem ktl_keys {K : PySem.W.Frag} {F : Hp} : ∀ {xs : List (List Int × Addr × Value)} {kvs : List (List Int × PyData)}, KTl K F xs kvs → DqA K F (xs.map fun e => V.ref e.2.1) (kvs.map fun e => .tuple (e.1.map .int))
  | _, _, .nil => .nil
  | _, _, .cons h r => .cons (.tup (by have := h.2.1; rw [h.1] at this; exact this) (DqA.of_ints _)) (ktl_keys r)
/-- the keys of a dict -/
def iD (fe : VEnv → Rs RV) : VEnv → Rs (List PyData) := fun env => (fe env).bind fun r => (rsO r.dt).bind fun kvs => .ok (kvs.map fun e => .tuple (e.1.map .int))
theorem e_iD (fe : VEnv → Rs RV) (env : VEnv) : iD fe env = (fe env).bind fun r => (rsO r.dt).bind fun kvs => .ok (kvs.map fun e => .tuple (e.1.map .int)) := rfl
section
variable {ca : CA} {W : WX} {X : Cx} {e : Expr} {fa : VEnv → Rs RV}
theorem vj_dict {tg : Expr} (h : VE ca W X e fa) : VJ ca W X tg e (iD fa) := by
  obtain ⟨t, p, s⟩ := h
  refine ⟨_, pi_keysO p, fun B F env σ H R st q => ?_⟩
  show t σ H fun x H1 => ∃ d n xs, x = .ref d ∧ H1 d = some (DTO d (n, xs)) ∧ R (ItT d n xs) H1
  refine seqE (PostJ X.K ca W σ F H R) s st q (fun _ _ h => h) (fun h => h) fun r F1 H1 v p1 g1 q1 => ?_
  cases e1 : r.dt with
  | none => rw [e1] at p1; exact p1.elim
  | some kvs =>
    rw [e1] at p1
    simp only [rsO_some, Rs.bind_ok] at p1
    obtain ⟨d, n, xs, rfl, hd, kq⟩ := dt_ok q1 e1
    exact ⟨d, n, xs, rfl, hd, p1 _ F1 H1 _ g1 (ktl_keys kq) (jw_dto hd)⟩
end
/-! ### max(d.values()) -/
def tMaxO (td : TE) : TE := fun σ H Q => td σ H fun x H1 => ∃ d n xs is, x = .ref d ∧ H1 d = some (DTO d (n, xs)) ∧ Paired (fun (e : List Int × Addr × Value) (j : Int) => ∃ t, e.2.2 = .int j t) xs is ∧ is ≠ [] ∧ ∀ m, m ∈ is → (∀ j ∈ is, j ≤ m) → Q (.int m) H1
theorem paired_at {α β : Type} {R : α → β → Prop} {xs : List α} {ys : List β} (h : Paired R xs ys) : ∀ {i : Nat} {x : α}, xs[i]? = some x → ∃ y, ys[i]? = some y ∧ R x y := by
  induction h with
  | nil => intro i x e; simp at e
  | @cons a b as bs h1 _ ih =>
    intro i x e
    cases i with
    | zero =>
      obtain rfl : a = x := by simpa using e
      exact ⟨b, rfl, h1⟩
    | succ i => exact ih (by simpa using e)
theorem pe_maxO {X : Cx} {oe : Expr} {p pos apos mpos : Pos} {td : TE} (hc : X.calm = true) (hg : Gl X "max") (hm : X.mg "max" = none) (hd : PE X oe td) (hbase : attributeBase oe "values" X.env (eval oe X.env) = eval oe X.env := by rfl) (hline : (apos.endLine == mpos.line) = true := by rfl)
    (hst : starEach [Expr.Call (.Attribute oe "values" apos) [] [] mpos] X.env = [(false, eval (Expr.Call (.Attribute oe "values" apos) [] [] mpos) X.env)] := by rfl) :
    PE X (.Call (.Name "max" p) [.Call (.Attribute oe "values" apos) [] [] mpos] [] pos) (tMaxO td) := by
  refine ⟨fun pins s σ H Q I h => wpAny_Call_Name_kw (ld_blt I hg hm (u := .builtin "max") (by first | rfl | decide +kernel) ?_ (by first | decide +kernel | decide) (by first | decide +kernel | decide))⟩
  rw [hst]
  refine PySem.callWith_builtin1 (wpAny_Call_method0_late hbase hline (thn (hd.run pins s σ H _ I h) fun v s1 ⟨x, H1, I1, r1, d, n, xs, is, ex, ha, hv, hne, q⟩ => ?_))
  subst ex
  obtain rfl : v = Value.ref d := r1
  obtain ⟨g0, ob, es, g1, g2, g3, g4, g5⟩ := dto_raw I1 ha
  have hl : xs.length = is.length := hv.length
  refine ⟨"dict", "dict.values", PySem.F.plainAttrs_dict, PySem.F.slot_dict_values, PySem.F.type_dict_values, ⟨ob, g1, g2.1⟩, fun b e => ?_, Calls.callWith_builtin rfl (PySem.evalArgs_none ?_)⟩
  · cases e
    exact ⟨ob, g1, g2.2.1⟩
  refine call_meetsIn PySem.F.slot_dict_values ⟨ob, g1, g2.1⟩ PySem.F.entry_dict_values (PySem.F.args_dict_values_1 _) (PySem.meets_dict_values_raw d g0) ⟨⟨es, n, ob, g1, g2, g3⟩, ?_⟩
  have hlt : d < s1.heap.objs.size := Heap.lt_size g1
  have kp : ∀ b u, s1.heap.get? b = some u → (s1.heap.push { cls := .type "dict_values", data := .fields #[.ref d] }).get? b = some u := fun b u e => Heap.get?_push_of_some _ e
  have sz : (s1.heap.push { cls := .type "dict_values", data := .fields #[.ref d] }).objs.size = s1.heap.objs.size + 1 := Heap.size_push _ _
  have val : ∀ (i : Nat) (e : DictEntry), es[i]? = some e → ∃ t, e.val = .int (is.getD i 0) t := fun i e he => by
    have hi : i < es.size := (Array.getElem?_eq_some_iff.mp he).1
    have hix : i < xs.length := by omega
    obtain ⟨en, z1, _, z2⟩ := g5 i xs[i] (List.getElem?_eq_getElem hix)
    obtain rfl : en = e := Option.some.inj (z1.symm.trans he)
    obtain ⟨j, z3, t, z4⟩ := paired_at hv (List.getElem?_eq_getElem hix)
    exact ⟨t, by rw [z2, z4, List.getD_eq_getElem?_getD, z3]; rfl⟩
  have npos : 0 < es.size := by
    have := List.length_pos_iff.mpr hne
    omega
  refine call_max_walk (DSub.iter_vals (v := s1.heap.objs.size) (a := d) (Heap.get?_push_size _ rfl) (kp _ _ g1) g3 ?_)
  refine ⟨_, _, _, _, _, _, _, rfl, DSub.walksVal (A := X.A.in1) (a := d) (ob := ob) (P := fun i v => ∃ t, v = .int (is.getD i 0) t) (I.ok.hd hc) (I := (s1.heap.push { cls := .type "dict_values", data := .fields #[.ref d] }).objs.size) (by rw [sz]; exact Nat.ne_of_lt (Nat.lt_succ_of_lt hlt)) g3 val,
    ⟨Heap.get?_push_size _ rfl, Heap.get?_push_of_some _ (kp _ _ g1)⟩, fun b hb => ?_, npos, CmpOf.ints_gt (fun i => is.getD i 0) (fun i v z => z), fun v h' tk hP hk => ?_⟩
  · show b < ((s1.heap.push _).push _).objs.size
    rw [Heap.size_push, sz]
    rw [sz] at hb
    rcases List.mem_cons.mp hb with e | e
    · rw [e]
      exact Nat.lt_succ_self _
    · rw [List.mem_singleton.mp e]
      exact Nat.lt_succ_of_lt (Nat.lt_succ_of_lt hlt)
  · obtain ⟨t, rfl⟩ := hP
    obtain ⟨b1, b2⟩ := argBest_gt (fun i => is.getD i 0) (es.size - 1)
    refine ⟨.int _, H1, I1.kept (t' := tk) fun b u e => hk b u (fun z => ?_) (Heap.get?_push_of_some _ (kp b u e)), ⟨t, rfl⟩, q _ ?_ fun j hj => ?_⟩
    · have z1 := List.mem_singleton.mp z
      have z2 := Heap.lt_size e
      rw [sz] at z1
      rw [z1] at z2
      exact absurd z2 (Nat.not_lt.mpr (Nat.le_succ _))
    · have m1 : argBest (fun i j => decide (is.getD i 0 > is.getD j 0)) (es.size - 1) ≤ es.size - 1 := b1
      have hb : argBest (fun i j => decide (is.getD i 0 > is.getD j 0)) (es.size - 1) < is.length := by omega
      rw [List.getD_eq_getElem?_getD, List.getElem?_eq_getElem hb]
      exact List.getElem_mem hb
    · obtain ⟨i, hi, rfl⟩ := List.getElem_of_mem hj
      have e2 : is.getD i 0 = is[i] := by rw [List.getD_eq_getElem?_getD, List.getElem?_eq_getElem hi]; rfl
      rw [← e2]
      exact b2 i (by omega)
/-- the ints that a dict holds -/
def valsI : List (List Int × PyData) → Option (List Int)
  | [] => some []
  | (_, .int j) :: r => (valsI r).map (j :: ·)
  | _ => none
theorem vals_ints {K : PySem.W.Frag} {F : Hp} : ∀ {xs : List (List Int × Addr × Value)} {kvs : List (List Int × PyData)} {is : List Int}, KTl K F xs kvs → valsI kvs = some is → Paired (fun (e : List Int × Addr × Value) (j : Int) => ∃ t, e.2.2 = .int j t) xs is
  | _, [], is, h, e => by cases h; cases e; exact .nil
  | _, (k, v) :: r, is, h, e => by
    cases h with
    | cons h1 h2 =>
      cases v with
      | int j =>
        unfold valsI at e
        obtain ⟨is', e1, e2⟩ := Option.map_eq_some_iff.mp e
        subst e2
        obtain ⟨w, r1, r2⟩ := h1.2.2
        cases r2
        exact .cons r1 (vals_ints h2 e1)
      | _ => cases e
def cMaxV (fa : VEnv → Rs RV) : VEnv → Rs RV := fun env => (fa env).bind fun r => (rsO r.dt).bind fun kvs => (rsO (valsI kvs)).bind fun is => (rsO (maxL is)).bind okI
theorem e_maxV (fa : VEnv → Rs RV) (env : VEnv) : cMaxV fa env = (fa env).bind fun r => (rsO r.dt).bind fun kvs => (rsO (valsI kvs)).bind fun is => (rsO (maxL is)).bind okI := rfl
theorem maxL_of {is : List Int} {m : Int} (h : m ∈ is) (k : ∀ j ∈ is, j ≤ m) : maxL is = some m := by
  cases is with
  | nil => cases h
  | cons x xs =>
    have key : ∀ (xs : List Int) (a : Int), (∀ j ∈ xs, j ≤ m) → a ≤ m → (a = m ∨ m ∈ xs) → xs.foldl (fun a b => if b > a then b else a) a = m := by
      intro xs
      induction xs with
      | nil =>
        intro a _ _ h
        rcases h with h | h
        · exact h
        · cases h
      | cons y ys ih =>
        intro a hx ha h
        rw [List.foldl_cons]
        have hy := hx y List.mem_cons_self
        refine ih _ (fun j hj => hx j (List.mem_cons_of_mem _ hj)) (by split <;> omega) ?_
        by_cases c : a = m
        · left
          split <;> omega
        · rcases h with h | h
          · exact absurd h c
          · rcases List.mem_cons.mp h with e | e
            · left
              split <;> omega
            · exact .inr e
    show some (xs.foldl _ x) = some m
    refine congrArg some (key xs x (fun j hj => k j (List.mem_cons_of_mem _ hj)) (k x List.mem_cons_self) ?_)
    rcases List.mem_cons.mp h with e | e
    · exact .inl e.symm
    · exact .inr e
theorem ve_maxV {ca : CA} {W : WX} {X : Cx} {oe : Expr} {fa : VEnv → Rs RV} {p pos apos mpos : Pos} (hc : X.calm = true) (hg : Gl X "max") (hm : X.mg "max" = none) (h : VE ca W X oe fa) (hbase : attributeBase oe "values" X.env (eval oe X.env) = eval oe X.env := by rfl) (hline : (apos.endLine == mpos.line) = true := by rfl)
    (hst : starEach [Expr.Call (.Attribute oe "values" apos) [] [] mpos] X.env = [(false, eval (Expr.Call (.Attribute oe "values" apos) [] [] mpos) X.env)] := by rfl) :
    VE ca W X (.Call (.Name "max" p) [.Call (.Attribute oe "values" apos) [] [] mpos] [] pos) (cMaxV fa) := by
  obtain ⟨t, pe, s⟩ := h
  refine ⟨_, pe_maxO hc hg hm pe hbase hline hst, fun B F env σ H Q st q => ?_⟩
  show t σ H fun x H1 => ∃ d n xs is, x = .ref d ∧ H1 d = some (DTO d (n, xs)) ∧ Paired (fun (e : List Int × Addr × Value) (j : Int) => ∃ t, e.2.2 = .int j t) xs is ∧ is ≠ [] ∧ ∀ m, m ∈ is → (∀ j ∈ is, j ≤ m) → Q (.int m) H1
  refine seqE (PostE X.K ca W σ F H Q) s st q (fun _ _ h => h) (fun h => h) fun r F1 H1 v p1 g1 q1 => ?_
  cases e1 : r.dt with
  | none => rw [e1] at p1; exact p1.elim
  | some kvs =>
    rw [e1] at p1
    simp only [rsO_some, Rs.bind_ok] at p1
    cases e2 : valsI kvs with
    | none => rw [e2] at p1; exact p1.elim
    | some is =>
      rw [e2] at p1
      simp only [rsO_some, Rs.bind_ok] at p1
      obtain ⟨d, n, xs, rfl, hd, kq⟩ := dt_ok q1 e1
      refine ⟨d, n, xs, is, rfl, hd, vals_ints kq e2, fun z => ?_, fun m h1 h2 => ?_⟩
      · subst z
        exact p1.elim
      · rw [maxL_of h1 h2] at p1
        exact p1 F1 H1 _ g1 (.int _)
end VL

namespace VL
open PySem PySem.Spec PyProof.Rows L2
/-! ## a list that a def hands back is new where nothing handed to it holds a list -/
mutual
/-- data without lists -/
def noL : PyData → Bool
  | .list _ => false
  | .dict _ => false
  | .tuple ds => noLs ds
  | _ => true
def noLs : List PyData → Bool
  | [] => true
  | d :: ds => noL d && noLs ds
end
/-- the frozen part without its lists -/
noncomputable def noLst (F : Hp) : Hp := fun a => match F a with
  | some (.lst _) => none
  | o => o
theorem noLst_sub (F : Hp) : Same (noLst F) F := fun a o h => by
  unfold noLst at h
  split at h
  · cases h
  · exact h
theorem noLst_at {F : Hp} {a : Addr} {o : HO} (h : F a = some o) (n : ∀ xs, o ≠ .lst xs) : noLst F a = some o := by
  unfold noLst
  rw [h]
  cases o with
  | lst xs => exact absurd rfl (n xs)
  | _ => rfl
theorem noLst_cfg {F H : Hp} (c : Cfg F H) : Cfg (noLst F) H := ⟨fun a o h => c.sub a o (noLst_sub F a o h), fun a xs h => noLst_at (c.tup a xs h) (fun _ z => by cases z), fun a ps h => c.nt a ps (noLst_sub F a _ h)⟩
/-- F' has all of F that is no list -/
def Like (F F' : Hp) : Prop := ∀ a o, F a = some o → (∀ xs, o ≠ .lst xs) → F' a = some o
theorem like_seqT {K : PySem.W.Frag} {F F' : Hp} {a : Addr} {xs : List V} (e : Like F F') (h : SqT K F a xs) : SqT K F' a xs := by
  rcases h with (h | ⟨o, h⟩) | h
  · exact .inl (.inl (e _ _ h fun _ z => by cases z))
  · exact .inl (.inr ⟨o, e _ _ h fun _ z => by cases z⟩)
  · exact .inr h
theorem like_seqN {K : PySem.W.Frag} {F F' : Hp} {a : Addr} {xs : List V} (e : Like F F') (h : SqN K F a xs) : SqN K F' a xs :=
  ⟨like_seqT e h.1, h.2.imp (fun ⟨o, u, h1, h2⟩ => ⟨o, u, e _ _ h1 (fun _ z => by cases z), h2⟩) id⟩
mutual
theorem Dq.like {K : PySem.W.Frag} {F F' : Hp} (e : Like F F') : ∀ (d : PyData) (v : V), noL d = true → Dq K F v d → Dq K F' v d
  | .none, _, _, h => by cases h; exact .non
  | .bool b, _, _, h => by cases h; exact .bl b
  | .int i, _, _, h => by cases h; exact .int i
  | .str x, _, _, h => by cases h; exact .str x
  | .list ds, _, n, h => by cases n
  | .tuple ds, _, n, h => by
    cases h with
    | tup h1 h2 => exact .tup (like_seqN e h1) (DqA.like e ds _ (by unfold noL at n; exact n) h2)
  | .dict _, _, _, h => by cases h
theorem DqA.like {K : PySem.W.Frag} {F F' : Hp} (e : Like F F') : ∀ (ds : List PyData) (vs : List V), noLs ds = true → DqA K F vs ds → DqA K F' vs ds
  | [], _, _, h => by cases h; exact .nil
  | d :: ds, _, n, h => by
    cases h with
    | cons h1 h2 =>
      unfold noLs at n
      rw [Bool.and_eq_true] at n
      exact .cons (Dq.like e d _ n.1 h1) (DqA.like e ds _ n.2 h2)
end
def RV.plain : RV → Bool
  | .d x => noL x
  | _ => false
/-- a list handed back becomes one of its own -/
def RV.thaw : RV → RV
  | .d (.list ds) => if noLs ds = true then .ol ds else .d (.list ds)
  | r => r
def thawR : Rs RV → Rs RV
  | .ok r => .ok r.thaw
  | m => m
theorem e_thaw1 (r : RV) : thawR (.ok r) = .ok r.thaw := rfl
theorem paired_like {K : PySem.W.Frag} {H0 H1 F F' H : Hp} (e : Like F F') : ∀ {vs : List V} {rs : List RV}, rs.all RV.plain = true → Paired (fun v r => RVok K H0 F H v r) vs rs → Paired (fun v r => RVok K H1 F' H v r) vs rs
  | _, _, _, .nil => .nil
  | _, r :: _, n, .cons h1 h2 => by
    rw [List.all_cons, Bool.and_eq_true] at n
    refine .cons ?_ (paired_like e n.2 h2)
    cases r with
    | d x => exact Dq.like e x _ n.1 h1
    | _ => cases n.1
/-- what a def that saw no frozen list hands back, over all that is frozen -/
theorem thaw_both {F H G' H' : Hp} (c : Cfg F H) (g : Grow (noLst F) H G' H') (D : Addr → Prop) (hD : ∀ a, D a → H a = none ∧ ∃ xs, G' a = some (.lst xs)) :
    ∃ F' : Hp, Grow F H F' H' ∧ (∀ a o, G' a = some o → ¬ D a → F' a = some o) ∧ (∀ a, D a → F' a = none) ∧ ∀ a o, F' a = some o → F a = some o ∨ G' a = some o := by
  classical
  obtain ⟨F', e1, e2, e3⟩ : ∃ F' : Hp, (∀ a, D a → F' a = none) ∧ (∀ a o, ¬ D a → F a = some o → F' a = some o) ∧ ∀ a, ¬ D a → F a = none → F' a = G' a := by
    refine ⟨fun a => if D a then none else match F a with | some o => some o | none => G' a, fun a h => if_pos h, fun a o n h => ?_, fun a n h => ?_⟩
    · show (if D a then none else _) = _
      rw [if_neg n, h]
    · show (if D a then none else _) = _
      rw [if_neg n, h]
  have inv : ∀ a o, F' a = some o → F a = some o ∨ G' a = some o := fun a o h => by
    by_cases n : D a
    · rw [e1 a n] at h; cases h
    · cases e : F a with
      | none => rw [e3 a n e] at h; exact .inr h
      | some o' => rw [e2 a o' n e] at h; exact .inl h
  have fresh : ∀ a o, F a = some o → ¬ D a := fun a o h z => by
    have := (hD a z).1
    rw [c.sub _ _ h] at this
    cases this
  have low : ∀ a o, G' a = some o → ¬ D a → F' a = some o := fun a o h n => by
    cases e : F a with
    | none => rw [e3 a n e]; exact h
    | some o' =>
      rw [e2 a o' n e]
      have h1 := g.hh.st _ _ (c.sub _ _ e) (fun ps z => c.nt a ps (z ▸ e))
      rw [g.cfg.sub _ _ h] at h1
      exact h1.symm
  refine ⟨F', ⟨⟨fun a o h => ?_, fun a xs h => ?_, fun a ps h => (inv a _ h).elim (c.nt a ps) (g.cfg.nt a ps)⟩, fun a o h => e2 a o (fresh a o h) h, g.hh, fun a o h => ?_⟩, low, e1, inv⟩
  · rcases inv a o h with z | z
    · exact g.hh.st _ _ (c.sub _ _ z) (fun ps w => c.nt a ps (w ▸ z))
    · exact g.cfg.sub _ _ z
  · have h1 := g.cfg.tup a xs h
    refine low a _ h1 fun z => ?_
    obtain ⟨_, ys, e⟩ := hD a z
    rw [h1] at e
    cases e
  · rcases inv a o h with z | z
    · exact .inl z
    · rcases g.nw a o z with z | z
      · exact .inl (noLst_sub F _ _ z)
      · exact .inr z
theorem thaw_ok {K : PySem.W.Frag} {F H G' H' : Hp} {v : V} {r : RV} (c : Cfg F H) (g : Grow (noLst F) H G' H') (h : RVok K H G' H' v r) : ∃ F', Grow F H F' H' ∧ RVok K H F' H' v r.thaw := by
  have whole : ∃ F', Grow F H F' H' ∧ RVok K H F' H' v r := by
    obtain ⟨F', g1, g2, _, g4⟩ := thaw_both c g (fun _ => False) (fun _ z => z.elim)
    have sm : Same G' F' := fun a o h => g2 a o h (fun z => z)
    have still : ∀ p, H p = none → G' p = none → F' p = none := fun p n0 f => by
      cases z : F' p with
      | none => rfl
      | some o =>
        rcases g4 p o z with q1 | q1
        · have := c.sub _ _ q1
          rw [n0] at this
          cases this
        · rw [f] at q1
          cases q1
    refine ⟨F', g1, ?_⟩
    cases r with
    | ol xs => obtain ⟨p, vs, e, n0, f, hp, q⟩ := h; exact ⟨p, vs, e, n0, still p n0 f, hp, DqA.mono sm _ _ q⟩
    | od xs => obtain ⟨p, vs, e, n0, f, hp, q⟩ := h; exact ⟨p, vs, e, n0, still p n0 f, hp, q.mono sm⟩
    | ot xs => obtain ⟨p, vs, e, n0, f, hp, q⟩ := h; exact ⟨p, vs, e, n0, still p n0 f, hp, q.mono sm⟩
    | d x => exact Dq.mono sm x v h
    | bl xs => obtain ⟨p, vs, e, hp, q⟩ := h; exact ⟨p, vs, e, hp, DqA.mono sm _ _ q⟩
    | bd xs => obtain ⟨p, vs, e, hp, q⟩ := h; exact ⟨p, vs, e, hp, q.mono sm⟩
    | bt xs => obtain ⟨p, vs, e, hp, q⟩ := h; exact ⟨p, vs, e, hp, q.mono sm⟩
    | sc ns => obtain ⟨a, e, q⟩ := h; exact ⟨a, e, sm.seq q⟩
    | xo a dd c fs => obtain ⟨e, xs, hp, q⟩ := h; exact ⟨e, xs, hp, q.mono sm⟩
    | t3 x ys kvs => exact t3_mono sm h
    | fd kvs => exact fd_mono sm h
    | ob me x fs =>
      obtain ⟨p, e, h⟩ := h
      have h' := h
      obtain ⟨C, dx, vs, _, h1, n0, f0, _⟩ := h'
      exact ⟨p, e, h.to sm n0 (still p n0 f0) rfl fun q _ ws n f eq => ⟨n, still q n f, eq⟩⟩
    | bo x fs => obtain ⟨p, e, h⟩ := h; exact ⟨p, e, h.to sm rfl fun q _ ws eq => eq⟩
  cases r with
  | d x =>
    cases x with
    | list ds =>
      show ∃ F', Grow F H F' H' ∧ RVok K H F' H' v (if noLs ds = true then .ol ds else .d (.list ds))
      by_cases n : noLs ds = true
      · rw [if_pos n]
        have h' : Dq K G' v (.list ds) := h
        cases h' with
        | @lst a xs _ h1 h2 =>
          have n0 : H a = none := by
            rcases g.nw a _ h1 with z | z
            · unfold noLst at z
              split at z
              · cases z
              · rename_i q
                exact absurd z (q xs)
            · exact z
          obtain ⟨F', g1, g2, g3, _⟩ := thaw_both c g (fun b => b = a) (fun b e => by subst e; exact ⟨n0, xs, h1⟩)
          refine ⟨F', g1, a, xs, rfl, n0, g3 a rfl, g.cfg.sub _ _ h1, DqA.like (fun b o e nl => g2 b o e fun z => ?_) ds xs n h2⟩
          subst z
          rw [h1] at e
          cases e
          exact nl _ rfl
      · rw [if_neg n]
        exact whole
    | _ => exact whole
  | _ => exact whole
section
variable {ca : CA} {W : WX} {X : Cx} {e : Expr} {es : List Expr} {pos : Pos}
/-- f(e, ..): what is handed over is data without lists, and a list that comes back is its caller's own -/
theorem ve_callT {fA : Addr} {fd : FuncData} {ps : List Str} {x : Str} {p : Pos} {k n m : Nat} {dds : List PyData} {G : List RV → Rs RV} {f : VEnv → Rs (List RV)} (Fo : FnOk X.prog X.w X.K X.mg X.base (L2.CX X.prog X.w) k fA fd ps (spV X.K ca n G)) (hr : Room k X.A) (hg : Gl X x) (hm : X.mg x = some (.ref fA)) (hk : PySem.W.keepIn X.K (.ref fA) = true) (hb : DBn X.K fd ps dds) (tk : Takes X W)
    (ha : VA ca W X (e :: es) f) (hn : m + dds.length = n := by rfl) (hdb : (x == ("__debug__" : Str)) = false := by decide) (he : starEach (e :: es) X.env = (false, eval e X.env) :: starEach es X.env := by rfl) (hpl : (backTo pos (starEach es X.env)).any (·.1) = false := by rfl) :
    VE ca W X (.Call (.Name x p) (e :: es) [] pos) (cA (fun rs => if rs.length = m ∧ rs.all RV.plain = true then thawR (G (rs.map RV.arg ++ dds.map RV.d)) else .no) f) := by
  obtain ⟨t, pa, sa⟩ := ha
  obtain ⟨dvs, ⟨ds, hd, hb⟩, hS⟩ := hb
  refine ⟨_, pe_callSD Fo hr hg hm hk hb hd (fun σ => passAt tk σ) pa hdb he hpl, fun B F env σ H Q st q => ?_⟩
  show t σ H fun vs H1 => spV X.K ca n G (vs ++ dvs) H1 Q (WE W σ)
  refine seqA (PostE X.K ca W σ F H Q) sa st q (fun _ _ h => h) (fun h => h) fun rs F1 H1 vs p1 g1 q1 => ?_
  split at p1
  · rename_i hl
    have hp : rs.map RV.arg = rs := by
      have : ∀ rs : List RV, rs.all RV.plain = true → rs.map RV.arg = rs := by
        intro rs
        induction rs with
        | nil => intro _; rfl
        | cons r rs ih =>
          intro h
          rw [List.all_cons, Bool.and_eq_true] at h
          rw [List.map_cons, ih h.2]
          cases r with
          | d x => rfl
          | _ => cases h.1
      exact this rs hl.2
    have q2 : Paired (fun v r => RVok X.K H1 (noLst F1) H1 v r) vs rs := paired_like (fun a o h n => noLst_at h n) hl.2 q1
    have q3 : Paired (fun v r => RVok X.K H1 (noLst F1) H1 v r) (vs ++ dvs) (rs.map RV.arg ++ dds.map RV.d) := by
      rw [hp]
      exact paired_app q2 (paired_D (hS _))
    refine ⟨by rw [Paired.length q3, List.length_append, List.length_map, List.length_map, hl.1, hn], noLst F1, _, noLst_cfg g1.cfg, fun P hP => ⟨same_none (noLst_sub F1) ((st.rg.tb.grow g1) P hP).1, ((st.rg.tb.grow g1) P hP).2⟩, q3, ?_⟩
    cases e1 : G (rs.map RV.arg ++ dds.map RV.d) with
    | ok r =>
      rw [e1] at p1
      intro G' H' v gg rr
      obtain ⟨F', g2, r2⟩ := thaw_ok g1.cfg gg rr
      exact p1 F' H' v (g1.trans g2) (r2.older g1.hh)
    | ex c fs =>
      rw [e1] at p1
      intro G' H' cls dx gg x
      obtain ⟨F', g2, g3, _⟩ := thaw_both g1.cfg gg (fun _ => False) (fun _ z => z.elim)
      obtain ⟨y1, dd, xs, y2, y3, y4⟩ := x
      exact p1 F' H' cls dx (g1.trans g2) ⟨y1, dd, xs, y2, y3, y4.mono fun a o h => g3 a o h fun z => z⟩
    | no => rw [e1] at p1; exact p1
  · exact p1.elim
end
end VL

namespace VL
open PySem PySem.Spec PyProof.Rows L2
/-! ## sorted(set(xs)), xs a list of ints -/
section
variable {P : Program} {w : World} {A : Around} {E : Value → Shared → Prop} {s : Shared}
set_option maxRecDepth 100000 in
set_option maxHeartbeats 3200000 in
theorem call_set_lstI {l : Addr} {items : Array Value} (ns : List Int) {Q : Value → Shared → Prop} (hh : A.handled = none) (hl : s.heap.IsList l items) (hit : IntsAre items.toList ns) (hb : ns.length + 1 < scanBound)
    (h : ∀ (h' : Heap) (tk c : Nat), SetR w h' s.heap.objs.size (fun j => decide (j ∈ ns)) c → c ≤ ns.length → (∀ b o, s.heap.get? b = some o → h'.get? b = some o) → Q (.ref s.heap.objs.size) { s with heap := h', toks := tk }) :
    wpAny (model P w) A (call (.type "set") [.ref l]) Q E s := by
  have hisz : items.size = ns.length := by
    have q := IntsAre.length hit
    rw [Array.length_toList] at q
    exact q
  obtain ⟨c, tl, hmro⟩ := F.called_set.mro
  have hmade := F.called_set.made
  have hsub := F.called_set.sub
  refine wpAny_call (codeAny_of_tree ?_)
  show wpAny _ _ (callAny (.type "set") _) _ _ _
  refine wpAny_pure ⟨Code.quiet_builtin _ (by decide +kernel), codeAny_builtin F.entry_type_call ?_⟩
  rw [Around.under_plain (weight_type_call_type "set" [.ref l] []) rfl]
  have h1 := F.called_set.notType
  have h2 := F.called_set.canCreate
  have hct := F.typeCall_set_1 (.ref l)
  repeat (any_goals (first | assumption | wp_step))

  refine codeAny_mono (code_set_led1 (.ref l) (E := E) (Q₁ := fun obj s₁ => obj = .ref s.heap.objs.size ∧ s₁ = { s with heap := s.heap.push { cls := .type "set", dict := none, data := .set #[] 0 (.fresh 0 0 (!w.params.followText "set-order")) } }) ⟨rfl, rfl⟩) fun r s₁ hr => ?_
  cases r with
  | error e => exact hr
  | ok fl =>
    cases fl with
    | ret obj =>
      obtain ⟨rfl, rfl⟩ := hr
      have hS : (s.heap.push { cls := .type "set", dict := none, data := .set #[] 0 (.fresh 0 0 (!w.params.followText "set-order")) }).get? s.heap.objs.size = some { cls := .type "set", dict := none, data := .set #[] 0 (.fresh 0 0 (!w.params.followText "set-order")) } := Heap.get?_push_size _ rfl
      have hT : Shared.TypeIs { s with heap := s.heap.push { cls := .type "set", dict := none, data := .set #[] 0 (.fresh 0 0 (!w.params.followText "set-order")) } } (.ref s.heap.objs.size) "set" := ⟨_, hS, rfl⟩
      have hli := F.called_set.init.lookup
      have hbi := F.called_set.init.bind (.ref s.heap.objs.size)
      repeat (any_goals (first | assumption | wp_step))

      refine codeAny_mono (codeAny_call_builtin (R := wants (fun r s₂ => r = .none ∧ ∃ h' tk c, s₂ = { s with heap := h', toks := tk } ∧ SetR w h' s.heap.objs.size (fun j => decide (j ∈ ns)) c ∧ c ≤ ns.length ∧
          (∀ b o, s.heap.get? b = some o → h'.get? b = some o)) E) F.called_set.init.plain F.entry_set_init (check_set_init_1 hT ?_)) fun r₂ s₂ hr₂ => ?_
      · obtain ⟨ol, hol, hcl, nl, hdl⟩ := hl
        obtain ⟨ocls, odict, odata, oslots⟩ := ol
        simp only at hcl hdl
        subst hcl; subst hdl
        have hol' : (s.heap.push { cls := .type "set", dict := none, data := .set #[] 0 (.fresh 0 0 (!w.params.followText "set-order")) }).get? l = some { cls := .type "list", dict := odict, data := .seq items nl, slots := oslots } := Heap.get?_push_of_some _ hol
        have hsls := F.sub_list_set
        have hslf := F.sub_list_frozenset
        have hne : (Value.type "list" == Value.type "dict") = false := by decide
        have hl1 : (s.heap.push { cls := .type "set", dict := none, data := .set #[] 0 (.fresh 0 0 (!w.params.followText "set-order")) }).IsList l items := ⟨_, hol', rfl, nl, rfl⟩
        unfold Builtin.«set.__init__» noKeywords Builtin.Frozenset.updateFrom
        generalize hPI : pyIter = PI
        wp_walk
        subst hPI

        refine wpAny_pyIter_list hl1 ?_
        refine wpAny_bind (wpAny_runValue ?_)
        have hlS : l < s.heap.objs.size := Heap.lt_size hol
        have hh3 : A.in1.in1.in1.handled = none := by simp [hh]
        have hz1 : (s.heap.push { cls := .type "set", dict := none, data := .set #[] 0 (.fresh 0 0 (!w.params.followText "set-order")) }).objs.size = s.heap.objs.size + 1 := Heap.size_push ..
        have hneI : l ≠ (s.heap.push { cls := .type "set", dict := none, data := .set #[] 0 (.fresh 0 0 (!w.params.followText "set-order")) }).objs.size := by
          rw [Heap.size_push]; exact Nat.ne_of_lt (Nat.lt_succ_of_lt hlS)
        have hSf : s.heap.objs.size ∉ [(s.heap.push { cls := .type "set", dict := none, data := .set #[] 0 (.fresh 0 0 (!w.params.followText "set-order")) }).objs.size, l] := by
          rw [Heap.size_push]; simp only [List.mem_cons, List.mem_singleton, List.not_mem_nil, or_false, not_or]
          exact ⟨Nat.ne_of_lt (Nat.lt_succ_self _), Nat.ne_of_gt hlS⟩
        have hval : ∀ (i : Nat) (v : Value), items[i]? = some v → ∃ k t, ns[i]? = some k ∧ v = .int k t := fun i v hv => by
          have hi : i < ns.length := by rw [← hisz]; exact (Array.getElem?_eq_some_iff.mp hv).1
          obtain ⟨t, e⟩ := PyProof.Rows.IntsAre.int_at hit i v (by rw [Array.getElem?_toList]; exact hv)
          refine ⟨ns[i], t, List.getElem?_eq_getElem hi, ?_⟩
          rw [e, List.getD_eq_getElem?_getD, List.getElem?_eq_getElem hi] <;> rfl
        refine set_update_ints ((Walks.list hh3 _ l hneI items).toS) s.heap.objs.size
          hSf ns hisz hb hval (items.size - 0) 0 _ (by omega) (Nat.zero_le _)
          ⟨⟨_, Heap.get?_push_size _ rfl, rfl, rfl⟩, (hl1.push _)⟩ ?hS0 ?hR
        case hS0 =>
          have hget : ((s.heap.push { cls := .type "set", dict := none, data := .set #[] 0 (.fresh 0 0 (!w.params.followText "set-order")) }).push { cls := .type "list_iterator", data := .fields #[.ref l, .int 0 0] }).get? s.heap.objs.size
              = some { cls := .type "set", dict := none, data := .set #[] 0 (.fresh 0 0 (!w.params.followText "set-order")) } := Heap.get?_push_of_some _ hS
          exact ⟨0, Nat.le_refl 0, setR_new_at hget⟩
        case hR =>
          intro s' c' hm hc' hS'
          obtain ⟨h', g2, d', tk', os'⟩ := s'
          have eg : g2 = s.gens := hm.gens
          have ed : d' = s.drawn := hm.drawn
          have eo : os' = s.os := hm.os
          subst eg; subst ed; subst eo
          show wpAny _ _ _ _ _ _
          refine wpAny_pure ?_
          show wpAny _ _ (ret Value.none) _ _ _
          rw [hisz] at hc'
          refine wpAny_pure ⟨rfl, h', tk', c', rfl, hS', hc', fun b o e => ?_⟩
          have hb0 : b < s.heap.objs.size := Heap.lt_size e
          have hb1 : b ≠ s.heap.objs.size := Nat.ne_of_lt hb0
          have hb2 : b ≠ (s.heap.push { cls := .type "set", dict := none, data := .set #[] 0 (.fresh 0 0 (!w.params.followText "set-order")) }).objs.size := by
            rw [Heap.size_push]; exact Nat.ne_of_lt (Nat.lt_succ_of_lt hb0)
          exact hm.heap b o (by simp only [List.mem_cons, List.mem_singleton, List.not_mem_nil, or_false, not_or]; exact ⟨hb1, hb2⟩) (Heap.get?_push_of_some _ (Heap.get?_push_of_some _ e))

      · cases r₂ with
        | error e => exact hr₂
        | ok fl₂ =>
          cases fl₂ with
          | ret r =>
            obtain ⟨rfl, h', tk, c', rfl, hS', hc', hk'⟩ := hr₂
            repeat (any_goals (first | assumption | wp_step))
            exact h _ _ _ hS' hc' hk'
          | _ => exact hr₂.elim
    | _ => exact hr.elim

end
/-- set(xs), xs a list of ints -/
def rSetOfI (K : PySem.W.Frag) (w : World) : List V → Hp → VK → Prop := fun xs H Q => ∃ (l : Addr) (ns : List Int), xs = [V.ref l] ∧ SqL K H l (ns.map V.int) ∧ ns.length ≤ 60 ∧
  ∀ a c, H a = none → c ≤ 60 → Q (.ref a) (upd H a (SetO w a (fun j => decide (j ∈ ns)) c))
theorem cr_setOfI {X : Cx} (hc : X.calm = true) : CallR X (.type "set") (rSetOfI X.K X.w) := by
  intro pins s σ H xs us Q I r h
  obtain ⟨l, ns, rfl, hl, hf, q⟩ := h
  rw [Vals.ref1 r]
  obtain ⟨its, rv, pl, hz⟩ := I.list hl
  have hn : H s.heap.objs.size = none := I.hok.fresh (Nat.le_refl _)
  have hi : IntsAre its.toArray.toList ns := ints_of_vals rv
  refine call_set_lstI (P := X.prog) (w := X.w) ns (I.ok.hd hc) pl.isList hi (by unfold scanBound; omega) fun h' tk c R hcn k => ?_
  exact ⟨.ref s.heap.objs.size, upd H s.heap.objs.size (SetO X.w s.heap.objs.size (fun j => decide (j ∈ ns)) c), I.laid (t' := tk) k (Nat.le_refl _) (setO_new R), rfl, q _ c hn (by omega)⟩
/-- the members, once each -/
def onceI : List Int → List Int
  | [] => []
  | x :: xs => if x ∈ onceI xs then onceI xs else x :: onceI xs
theorem once_mem (k : Int) : ∀ xs : List Int, k ∈ onceI xs ↔ k ∈ xs
  | [] => Iff.rfl
  | x :: xs => by
    have ih := once_mem k xs
    unfold onceI
    split
    · rename_i c
      rw [ih, List.mem_cons]
      constructor
      · exact .inr
      · rintro (rfl | z)
        · exact (once_mem k xs).mp c
        · exact z
    · rw [List.mem_cons, List.mem_cons, ih]
theorem once_nodup : ∀ xs : List Int, (onceI xs).Nodup
  | [] => .nil
  | x :: xs => by
    unfold onceI
    split
    · exact once_nodup xs
    · rename_i c
      exact List.nodup_cons.mpr ⟨c, once_nodup xs⟩
theorem lt_uniq {xs ys : List Int} (h : xs.Pairwise (· < ·)) (k : ys.Pairwise (· < ·)) (e : ∀ j, j ∈ xs ↔ j ∈ ys) : xs = ys := by
  have le : ∀ {zs : List Int}, zs.Pairwise (· < ·) → zs.Pairwise (· ≤ ·) := fun h => List.Pairwise.imp (fun z => by omega) h
  have nd : ∀ {zs : List Int}, zs.Pairwise (· < ·) → zs.Nodup := fun h => List.Pairwise.imp (fun z => by omega) h
  exact sorted_uniq ((List.perm_ext_iff_of_nodup (nd h) (nd k)).mpr e) (le h) (le k)
theorem once_sorted (ns : List Int) : (isort (onceI ns)).Pairwise (· < ·) := by
  have h := isort_sorted (onceI ns)
  have n : (isort (onceI ns)).Nodup := (isort_perm _).nodup_iff.mpr (once_nodup ns)
  exact List.Pairwise.imp (fun ⟨a, b⟩ => by omega) (List.Pairwise.and h n)
/-- sorted(set(xs)) -/
def gSortSet (r : RV) : Rs RV := (rsO r.qv).bind fun xs => (rsO (intsD xs)).bind fun ns => if ns.length ≤ 60 then .ok (.ol ((isort (onceI ns)).map .int)) else .no
theorem e_sortSet (r : RV) : gSortSet r = (rsO r.qv).bind fun xs => (rsO (intsD xs)).bind fun ns => if ns.length ≤ 60 then .ok (.ol ((isort (onceI ns)).map .int)) else .no := rfl
theorem ve_sortSet {ca : CA} {W : WX} {X : Cx} {e : Expr} {fa : VEnv → Rs RV} {p p2 pos pos2 : Pos} (hc : X.calm = true) (hg : Gl X "sorted") (hm : X.mg "sorted" = none) (hg2 : Gl X "set") (hm2 : X.mg "set" = none) (h : VE ca W X e fa)
    (he : starEach [e] X.env = [(false, eval e X.env)] := by rfl) (he2 : starEach [Expr.Call (.Name "set" p2) [e] [] pos2] X.env = [(false, eval (Expr.Call (.Name "set" p2) [e] [] pos2) X.env)] := by rfl) :
    VE ca W X (.Call (.Name "sorted" p) [.Call (.Name "set" p2) [e] [] pos2] [] pos) (c1 gSortSet fa) := by
  obtain ⟨t, pe, s⟩ := h
  have e1 : PE X (.Call (.Name "set" p2) [e] [] pos2) (tCB (rSetOfI X.K X.w) (tCons t tNil)) := pe_callTy (cr_setOfI hc) hg2 hm2 (by decide +kernel) (pa_cons pe pa_nil he) (by decide) (by decide) he rfl
  have e2 : PE X (.Call (.Name "sorted" p) [.Call (.Name "set" p2) [e] [] pos2] [] pos) (tCB (rSortedSet X.w) (tCons (tCB (rSetOfI X.K X.w) (tCons t tNil)) tNil)) := pe_callB (cr_sortedSet hc) hg hm (by decide +kernel) (pa_cons e1 pa_nil he2) (by decide) (by decide) he2 rfl
  refine ⟨_, e2, fun B F env σ H Q st q => ?_⟩
  show t σ H fun x H1 => rSetOfI X.K X.w [x] H1 fun y H2 => rSortedSet X.w [y] H2 Q
  refine seqE (PostE X.K ca W σ F H Q) s st q (fun _ _ h => h) (fun h => h) fun r F1 H1 v p1 g1 q1 => ?_
  unfold gSortSet at p1
  cases e3 : r.qv with
  | none => rw [e3] at p1; exact p1.elim
  | some xs =>
    rw [e3] at p1
    simp only [rsO_some, Rs.bind_ok] at p1
    cases e4 : intsD xs with
    | none => rw [e4] at p1; exact p1.elim
    | some ns =>
      rw [e4] at p1
      simp only [rsO_some, Rs.bind_ok] at p1
      split at p1
      · rename_i hz
        obtain ⟨q0, ws, rfl, hq, dq⟩ := qv_ok g1.cfg.sub q1 e3
        obtain rfl := ints_ok dq e4
        refine ⟨q0, ns, rfl, hq, hz, fun a c ha hc60 => ⟨a, _, c, rfl, upd_same, by omega, fun out l so mem _ hl => ?_⟩⟩
        have e5 : out = isort (onceI ns) := lt_uniq so (once_sorted ns) fun j => by
          rw [mem j, decide_eq_true_eq, (isort_perm _).mem_iff, once_mem]
        subst e5
        have g2 := Grow.newO g1.cfg (SetO X.w a (fun j => decide (j ∈ ns)) c) ha (fun _ z => by cases z)
        have g3 := Grow.newO g2.cfg (.lst ((isort (onceI ns)).map V.int)) hl (fun _ z => by cases z)
        refine p1 _ _ _ ((g1.trans g2).trans g3) ⟨l, _, rfl, none_n g1.hh (none_n g2.hh hl), same_none g2.cfg.sub hl, upd_same, DqA.of_ints _⟩
      · exact p1.elim
end VL

namespace VL
open PySem PySem.Spec PyProof.Rows L2
/-! ## xs.pop() as a statement; a def that calls itself -/
section
variable {ca : CA} {W : WX} {X : Cx} {pos : Pos}
theorem dqa_dropLast {K : PySem.W.Frag} {F : Hp} {vs : List V} {ds : List PyData} (h : DqA K F vs ds) : DqA K F vs.dropLast ds.dropLast := by
  rw [List.dropLast_eq_take, List.dropLast_eq_take, h.length]
  exact h.take _
theorem vs_pop (i : Nat) {x : Str} {p1 p2 p3 : Pos} (hN : X.N[i]? = some x := by rfl) (hv : Vis X.env.scope x := by first | exact Or.inl rfl | exact Or.inr (Or.inl rfl) | exact Or.inr (Or.inr rfl)) (hd : (x == ("__debug__" : Str)) = false := by decide) (hcd : (x == ("__classdict__" : Str)) = false := by decide)
    (hbase : attributeBase (.Name x p1) "pop" X.env (eval (.Name x p1) X.env) = eval (.Name x p1) X.env := by rfl) (hline : (p2.endLine == p3.line) = true := by rfl)
    (hsw : swapsWith (.Call (.Attribute (.Name x p1) "pop" p2) [] [] p3) none pos.line X.env = pure false := by rfl) :
    VS ca W X (.Expr (.Call (.Attribute (.Name x p1) "pop" p2) [] [] p3) pos) (sPop i) := by
  refine ⟨_, ps_expr (pe_bm0 PySem.F.plainAttrs_list PySem.F.slot_list_pop PySem.F.type_list_pop mt_pop (pe_var hN hv hd hcd) hbase hline) hsw, fun B F env σ H D st p => ?_⟩
  show ∃ v, σ[i]? = some (some v) ∧ (tyV X.K "list" v H ∧ rPop v [] H fun _ H2 => D.nx σ H2)
  unfold sPop at p
  split at p
  · rename_i xs e1
    split at p
    · exact p.elim
    · rename_i hne
      obtain ⟨a, vs, s1, n0, f0, hp, q⟩ := st.ownAt e1
      have hl : vs.length = xs.length := q.length
      have hpos : 0 < vs.length := by
        have := List.length_pos_iff.mpr hne
        omega
      refine ⟨.ref a, s1, .inl ⟨rfl, vs, SqL.of hp⟩, a, vs, vs[vs.length - 1], rfl, rfl, hp, List.getElem?_eq_getElem (by omega), ?_⟩
      exact p F σ _ (Same.refl _) (st.write (r1 := .ol xs.dropLast) e1 rfl s1 hp n0 f0 (fun _ z => by cases z) ⟨a, _, rfl, n0, f0, upd_same, dqa_dropLast q⟩ rfl)
  · exact p.elim
theorem e_pop (i : Nat) (env : VEnv) : sPop i env = match env[i]? with
  | some (some (.ol xs)) => if xs = [] then .no else .nx (env.set i (some (.ol xs.dropLast)))
  | _ => .no := rfl
/-- nothing is promised -/
theorem fn_no {P : Program} {w : World} {K : PySem.W.Frag} {mg : Str → Option Value} {base : Heap} {k n : Nat} {fA : Addr} {fd : FuncData} {ps : List Str} (hn : ps.length = n) : FnOk P w K mg base (L2.CX P w) k fA fd ps (spV K ca n fun _ => .no) :=
  ⟨fun vs H Q E h => by rw [h.1, hn], fun A outer s H args us vs Q E _ _ _ _ h => by
    obtain ⟨_, G, rs, _, _, _, q⟩ := h
    exact q.elim⟩
end
end VL

namespace VL
open PySem PySem.Spec PyProof.Rows L2
/-! ## k in d.values() -/
theorem nameless_vals : typeLookup (.type "dict_values") "__contains__" = pure none := by
  rw [typeLookup_type, builtinLookup_eq_fast]
  kernel_rfl
theorem entry_cit : entryFor table "proto.contains_iter" = some Builtin.«proto.contains_iter» := entryFor_of_tree (by kernel_rfl)
theorem plain_cit : plainId "proto.contains_iter" = true := by decide +kernel
section
variable {P : Program} {w : World} {A : Around} {E : Value → Shared → Prop}
theorem contains_loop {I : Addr} {fp wr : List Addr} {G : Array GenState → Array GenState → Prop} {n : Nat} {Pv : Nat → Value → Prop} {St : Nat → Shared → Prop} {R : Result → Shared → Prop}
    (W : WalksS P w A.in1 I fp wr G n Pv St) (k : Int) (tk : Tok) (is : List Int) (hn : n = is.length) (hval : ∀ i v, Pv i v → ∃ t, v = .int (is.getD i 0) t) :
    ∀ (m i : Nat) (s : Shared), n - i = m → i ≤ n → St i s → (∀ s', Moved wr G s s' → R (.ok (.ret (.bool (decide (k ∈ is.drop i))))) s') →
      codeAny (model P w) A (.builtin "proto.contains_iter" ⟨[.ref I, .int k tk], []⟩) R s := by
  intro m
  induction m with
  | zero =>
    intro i s hm hi hst hR
    obtain rfl : i = n := by omega
    refine codeAny_builtin entry_cit ?_
    rw [Around.under_plainId plain_cit _]
    show wpAny _ A.in1 (pyNext (.ref I) >>= _) _ _ s
    refine wpAny_bind (W.done s _ _ hst fun s' hm => ?_)
    refine wpAny_bind (wpAny_rule (wpAny_pure ?_))
    have := hR s' hm
    rw [List.drop_eq_nil_of_le (by omega)] at this
    exact this
  | succ m ih =>
    intro i s hm hi hst hR
    have hlt : i < n := by omega
    have hd : is.drop i = is[i]'(by omega) :: is.drop (i + 1) := List.drop_eq_getElem_cons (by omega)
    refine codeAny_builtin entry_cit ?_
    rw [Around.under_plainId plain_cit _]
    show wpAny _ A.in1 (pyNext (.ref I) >>= _) _ _ s
    refine wpAny_bind (W.item i s _ _ hlt hst fun v s' hP hst' hmv => ?_)
    obtain ⟨t, rfl⟩ := hval i v hP
    have e0 : is.getD i 0 = is[i]'(by omega) := by rw [List.getD_eq_getElem?_getD, List.getElem?_eq_getElem (by omega)]; rfl
    refine wpAny_bind (wpAny_eqBool_int ?_)
    rw [e0]
    cases hb : (is[i]'(by omega) == k) with
    | false =>
      simp only [Bool.false_eq_true, if_false]
      refine wpAny_pure ⟨plainId_quiet plain_cit _, ih (i + 1) _ (by omega) hlt hst' fun s'' hm' => ?_⟩
      have := hR s'' (hmv.trans W.gtrans hm')
      have ne : ¬ k = is[i]'(by omega) := fun z => by
        rw [← z] at hb
        simp at hb
      have e : decide (k ∈ is.drop i) = decide (k ∈ is.drop (i + 1)) := decide_eq_decide.mpr (by
        rw [hd, List.mem_cons]
        exact ⟨fun z => z.resolve_left ne, .inr⟩)
      rw [e] at this
      exact this
    | true =>
      simp only [if_true]
      refine wpAny_bind (wpAny_rule (wpAny_pure ?_))
      have := hR s' hmv
      have e : k = is[i]'(by omega) := by simpa using (beq_iff_eq.mp hb).symm
      rw [hd, decide_eq_true (by rw [← e]; exact List.mem_cons_self)] at this
      exact this
end
def vwObj (a : Addr) : Obj := { cls := .type "dict_values", data := .fields #[.ref a] }
def VwO (p a : Addr) : HO := .ext fun h => h.get? p = some (vwObj a)
theorem vw_new {P : Program} {w : World} {H : Hp} {h : Heap} {p a : Addr} (R : h.get? p = some (vwObj a)) : ObjOk P w H h p (VwO p a) := ⟨R, ⟨_, R⟩, fun h1 h2 q k => k _ q⟩
/-- d.values(), as an object -/
def tValsK (td : TE) : TE := fun σ H Q => td σ H fun x H1 => ∃ a kvs, x = V.ref a ∧ Rd H1 a (.dK kvs) ∧ ∀ p, H1 p = none → Q (.ref p) (upd H1 p (VwO p a))
theorem pe_valsK {X : Cx} {o : Expr} {apos mpos : Pos} {td : TE} (hd : PE X o td) (hbase : attributeBase o "values" X.env (eval o X.env) = eval o X.env := by rfl) (hline : (apos.endLine == mpos.line) = true := by rfl) :
    PE X (.Call (.Attribute o "values" apos) [] [] mpos) (tValsK td) := by
  refine ⟨fun pins s σ H Q I h => wpAny_Call_method0_late hbase hline (thn (hd.run pins s σ H _ I h) fun v s1 ⟨x, H1, I1, r1, a, kvs, ex, ha, q⟩ => ?_)⟩
  subst ex
  obtain rfl : v = Value.ref a := r1
  obtain ⟨_, hsys, vs, rel, dof⟩ := dk_rd I1.hok ha
  obtain ⟨ep, dat⟩ := dof.dictAt
  have dat' := dat
  obtain ⟨ob, es, ho, ex, hdat, hko, hpr, hnd⟩ := dat'
  refine ⟨"dict", "dict.values", F.plainAttrs_dict, F.slot_dict_values, F.type_dict_values, ⟨ob, ho, ex.1⟩, fun b e => ?_, Calls.callWith_builtin rfl (PySem.evalArgs_none ?_)⟩
  · cases e
    exact ⟨ob, ho, ex.2.1⟩
  refine call_meetsIn F.slot_dict_values ⟨ob, ho, ex.1⟩ F.entry_dict_values (F.args_dict_values_1 _) (meets_dict_values (mixKind X.prog X.w) a hsys) ⟨⟨vs, dof⟩, ?_⟩
  exact ⟨.ref _, upd H1 s1.heap.objs.size (VwO s1.heap.objs.size a), I1.laid (t' := s1.toks) (fun b u e => Heap.get?_push_of_some _ e) (Nat.le_refl _) (vw_new (Heap.get?_push_size _ rfl)), rfl, q _ (I1.hok.fresh (Nat.le_refl _))⟩
def rInVals : R2 := fun x y H Q => ∃ (k : Int) (p a : Addr) (kvs : List (Key × V)) (is : List Int), x = V.int k ∧ y = V.ref p ∧ H p = some (VwO p a) ∧ Rd H a (.dK kvs) ∧ kvs.map (·.2) = is.map V.int ∧ Q (.bl (decide (k ∈ is))) H
theorem or_inVals {X : Cx} (hc : X.calm = true) : OpR X (compareOp .In) rInVals := by
  intro pins s σ H x y v u Q I rx ry h
  obtain ⟨k, p, a, kvs, is, rfl, rfl, hp, ha, hv, q⟩ := h
  obtain ⟨tk, rfl⟩ := rx
  cases ry
  have vw : s.heap.get? p = some (vwObj a) := (I.hok p _ hp).1
  have hT : s.TypeIs (.ref p) "dict_values" := ⟨_, vw, rfl⟩
  obtain ⟨_, hsys, vs, rel, dof⟩ := dk_rd I.hok ha
  obtain ⟨ep, dat⟩ := dof.dictAt
  have dat' := dat
  obtain ⟨ob, es, ho, ex, hdat, hko, hpr, hnd⟩ := dat'
  have hlv : vs.length = is.length := by
    have e1 := congrArg List.length hv
    rw [List.length_map, List.length_map] at e1
    rw [← e1]
    exact (KV.length rel).symm
  have hval : ∀ (i : Nat) (v : Value), (∃ k, vs[i]? = some (k, v)) → ∃ t, v = Value.int (is.getD i 0) t := fun i v ⟨k, hk⟩ => by
    obtain ⟨x, h1, h2⟩ := KV.at' rel hk
    have e1 : (kvs.map (·.2))[i]? = some x := by rw [List.getElem?_map, h1] <;> rfl
    rw [hv, List.getElem?_map] at e1
    obtain ⟨j, hj, e2⟩ := Option.map_eq_some_iff.mp e1
    subst e2
    obtain ⟨t, e3⟩ := h2
    refine ⟨t, ?_⟩
    rw [e3, List.getD_eq_getElem?_getD, hj] <;> rfl
  have hlt : a < s.heap.objs.size := Heap.lt_size ho
  show wpAny _ _ (do return Value.bool (← contains (.ref p) (.int k tk))) _ _ s
  refine wpAny_bind ?_
  unfold contains
  refine wpAny_holding ?_
  rw [stdlibNamesSay?_of_typeIs hT]
  refine wpAny_bind (wpAny_specialOf hT nameless_vals ?_)
  rw [if_neg (by simp)]
  refine wpAny_bind (wpAny_callSpecialUnlessNone?_none hT nameless_vals ?_)
  refine wpAny_bind (wpAny_rule ?_)
  refine wpAny_bind (wpAny_tryCatch (wpAny_pyIter_values (v := p) (d := a) ⟨_, vw, rfl, rfl⟩ dat ?_))
  have W := (Walks.dictValues (prog := X.prog) (w := X.w) (knd := mixKind X.prog X.w) (A := X.A.in1) (I.ok.hd hc) s.heap.objs.size a (Nat.ne_of_lt hlt) vs ep).toS
  refine wpAny_bind (wpAny_runValue (contains_loop W k tk is hlv hval _ 0 _ rfl (Nat.zero_le _) ⟨⟨_, Heap.get?_push_size _ rfl, rfl, rfl⟩, dat.keep fun b u e => Heap.get?_push_of_some _ e⟩ fun s' hm => ?_))
  refine wpAny_pure (wpAny_pure ?_)
  obtain ⟨h', g2, d2, t2, o2⟩ := s'
  have eg : g2 = s.gens := hm.gens
  have ed : d2 = s.drawn := hm.drawn
  have eo : o2 = s.os := hm.os
  subst eg; subst ed; subst eo
  rw [List.drop_zero]
  refine ⟨.bl (decide (k ∈ is)), H, I.kept (t' := t2) fun b u e => hm.heap b u (fun z => ?_) (Heap.get?_push_of_some _ e), rfl, q⟩
  have z1 := List.mem_singleton.mp z
  have z2 := Heap.lt_size e
  rw [z1] at z2
  exact absurd z2 (Nat.lt_irrefl _)
/-- the ints that a dict holds -/
def valsK : List (Key × PyData) → Option (List Int)
  | [] => some []
  | (_, .int j) :: r => (valsK r).map (j :: ·)
  | _ => none
theorem valsK_ok {K : PySem.W.Frag} {F : Hp} : ∀ {xs : List (Key × V)} {kvs : List (Key × PyData)} {is : List Int}, KD K F xs kvs → valsK kvs = some is → xs.map (·.2) = is.map V.int
  | _, [], is, h, e => by cases h; cases e; rfl
  | _, (k, v) :: r, is, h, e => by
    cases h with
    | cons h1 h2 =>
      cases v with
      | int j =>
        unfold valsK at e
        obtain ⟨is', e1, e2⟩ := Option.map_eq_some_iff.mp e
        subst e2
        have h3 := h1.2
        rename_i x xs
        obtain ⟨x1, x2⟩ := x
        cases h3
        rw [List.map_cons, valsK_ok h2 e1]
        rfl
      | _ => cases e
def cInV (fa fd : VEnv → Rs RV) : VEnv → Rs RV := fun env => (fa env).bind fun a => (fd env).bind fun d => match a with
  | .d (.int k) => (rsO d.dk).bind fun kvs => (rsO (valsK kvs)).bind fun is => okB (decide (k ∈ is))
  | _ => .no
theorem e_inV (fa fd : VEnv → Rs RV) (env : VEnv) : cInV fa fd env = (fa env).bind fun a => (fd env).bind fun d => match a with
  | .d (.int k) => (rsO d.dk).bind fun kvs => (rsO (valsK kvs)).bind fun is => okB (decide (k ∈ is))
  | _ => .no := rfl
theorem snd_inV {ca : CA} {W : WX} {K : PySem.W.Frag} {ta td : TE} {fa fd : VEnv → Rs RV} (sa : SndE K ca W ta fa) (sd : SndE K ca W td fd) : SndE K ca W (tOp rInVals ta (tValsK td)) (cInV fa fd) := by
  intro B F env σ H Q st q
  show ta σ H fun x H1 => td σ H1 fun z H2 => ∃ a kvs, z = V.ref a ∧ Rd H2 a (.dK kvs) ∧ ∀ p, H2 p = none → rInVals x (.ref p) (upd H2 p (VwO p a)) Q
  refine seqE (PostE K ca W σ F H Q) sa st q (fun _ _ h => h) (fun h => h) fun r F1 H1 v p1 g1 q1 => ?_
  refine seqE (PostE K ca W σ F H Q) sd (st.grow g1) p1 (fun _ _ h => PostX.mono g1 h) (fun h => h) fun d F2 H2 z p2 g2 q2 => ?_
  cases r with
  | d x =>
    cases x with
    | int k =>
      simp only at p2
      cases e1 : d.dk with
      | none => rw [e1] at p2; exact p2.elim
      | some kvs =>
        rw [e1] at p2
        simp only [rsO_some, Rs.bind_ok] at p2
        cases e2 : valsK kvs with
        | none => rw [e2] at p2; exact p2.elim
        | some is =>
          rw [e2] at p2
          obtain ⟨a0, xs, rfl, hp, kd⟩ := dk_ok q2 e1
          cases q1
          refine ⟨a0, xs, rfl, hp, fun p hn => ⟨k, p, a0, xs, is, rfl, rfl, upd_same, ?_, valsK_ok kd e2, ?_⟩⟩
          · rcases hp with hp | ⟨o, hp⟩
            · exact .inl (by rw [upd_ne (ne_of_none hp hn)]; exact hp)
            · exact .inr ⟨o, by rw [upd_ne (ne_of_none hp hn)]; exact hp⟩
          · have g3 := Grow.newO g2.cfg (VwO p a0) hn (fun _ z => by cases z)
            exact p2 _ _ _ ((g1.trans g2).trans g3) (.bl _)
    | _ => exact p2.elim
  | _ => exact p2.elim
theorem ve_inV {ca : CA} {W : WX} {X : Cx} {a oe : Expr} {fa fd : VEnv → Rs RV} {pos apos mpos : Pos} (hc : X.calm = true) (ha : VE ca W X a fa) (hd : VE ca W X oe fd) (hbase : attributeBase oe "values" X.env (eval oe X.env) = eval oe X.env := by rfl) (hline : (apos.endLine == mpos.line) = true := by rfl)
    (hm : behindInMarks .In (.Call (.Attribute oe "values" apos) [] [] mpos) = false := by rfl) : VE ca W X (.Compare a [.In] [.Call (.Attribute oe "values" apos) [] [] mpos] pos) (cInV fa fd) := by
  obtain ⟨ta, pa, sa⟩ := ha
  obtain ⟨td, pd, sd⟩ := hd
  exact ⟨_, pe_cmpR (or_inVals hc) pa (pe_valsK pd hbase hline) hm, snd_inV sa sd⟩
theorem vt_inV {ca : CA} {W : WX} {X : Cx} {a oe : Expr} {fa fd : VEnv → Rs RV} {pos apos mpos : Pos} (hc : X.calm = true) (ha : VE ca W X a fa) (hd : VE ca W X oe fd) (hbase : attributeBase oe "values" X.env (eval oe X.env) = eval oe X.env := by rfl) (hline : (apos.endLine == mpos.line) = true := by rfl)
    (hm : behindInMarks .In (.Call (.Attribute oe "values" apos) [] [] mpos) = false := by rfl) : VT ca W X (.Compare a [.In] [.Call (.Attribute oe "values" apos) [] [] mpos] pos) (cB (cInV fa fd)) := by
  obtain ⟨ta, pa, sa⟩ := ha
  obtain ⟨td, pd, sd⟩ := hd
  exact ⟨_, pt_cmpR (or_inVals hc) pa (pe_valsK pd hbase hline) hm, snd_test (snd_inV sa sd)⟩
end VL

namespace VL
open PySem PySem.Spec PyProof.Rows L2
/-! ## a comprehension over a dict of its own, whose keys are ints or texts -/
def kPD : Key → PyData
  | .inl i => .int i
  | .inr s => .str s
def borE (env : VEnv) : VEnv := env.map (Option.map RV.bor)
theorem kv_dq {K : PySem.W.Frag} {F : Hp} (k : Key) : Dq K F (kV k) (kPD k) := by
  cases k with
  | inl i => exact .int i
  | inr s => exact .str s
theorem kd_keys {K : PySem.W.Frag} {F F' : Hp} : ∀ {ws : List (Key × V)} {kvs : List (Key × PyData)}, KD K F ws kvs → DqA K F' (ws.map fun e => kV e.1) (kvs.map fun e => kPD e.1)
  | _, _, .nil => .nil
  | a :: _, b :: _, .cons h r => .cons (show Dq K F' (kV a.1) (kPD b.1) by rw [h.1]; exact kv_dq _) (kd_keys r)
theorem bor_isB (r : RV) : r.bor.own = false := by cases r <;> rfl
theorem jw_keysK {G : Hp} {d : Addr} {o : Obj} {ws : List (Key × V)} (h : G d = some (.frz o (.dK ws))) : JWalk (Itk d o ws) G (ws.map fun e => kV e.1) where
  go := fun i H s hi => ⟨s _ _ h, by simpa using hi⟩
  yld := fun i H x H' s y hi => by
    obtain ⟨e1, k, v, e2, e3⟩ := y
    exact ⟨e1, by rw [List.getElem?_map, e2, e3]; rfl⟩
  stop := fun H s => ⟨s _ _ h, by simp⟩
section
variable {K : PySem.W.Frag} {B : Base} {F H F1 H1 : Hp} {env : VEnv} {σ : L2.St} {d : Addr} {ws : List (Key × V)} {od : Obj}
theorem lock_st (st : StOk K ca B F env σ H) (hd : H d = some (.dK ws)) (od : Obj) (fd : F d = none) : StOk K ca { F := F, H := upd H d (.frz od (.dK ws)) } F (borE env) σ (upd H d (.frz od (.dK ws))) := by
  have cfg : Cfg F (upd H d (.frz od (.dK ws))) := ⟨fun b o h => by
      have : b ≠ d := fun z => by rw [z, fd] at h; cases h
      rw [upd_ne this]
      exact st.cfg.sub b o h, fun b xs h => by
      by_cases z : b = d
      · rw [z, upd_same] at h; cases h
      · rw [upd_ne z] at h; exact st.cfg.tup b xs h, st.cfg.nt⟩
  have at_ : ∀ (i : Nat) (r : RV), (borE env)[i]? = some (some r) → ∃ r0, env[i]? = some (some r0) ∧ r = r0.bor := fun i r h => by
    unfold borE at h
    rw [List.getElem?_map] at h
    obtain ⟨x, h1, h2⟩ := Option.map_eq_some_iff.mp h
    cases x with
    | none => cases h2
    | some r0 => exact ⟨r0, h1, (Option.some.inj h2).symm⟩
  have ne : ∀ {p : Addr} {o : HO}, H p = some o → o ≠ .dK ws → p ≠ d := fun h n z => by
    rw [z, hd] at h
    exact n (Option.some.inj h).symm
  have noOwn : ∀ {i : Nat} {r : RV}, (borE env)[i]? = some (some r) → r.own = true → False := fun {i r} h ho => by
    obtain ⟨r0, h0, rfl⟩ := at_ i r h
    rw [bor_isB] at ho
    cases ho
  -- instances stand aside
  have bo_ : ∀ {a : Addr} {x : Str} {fs : List (Str × FV)}, BoOk K F H a x fs → BoOk K F (upd H d (.frz od (.dK ws))) a x fs ∧ fla (upd H d (.frz od (.dK ws))) a fs = fla H a fs := fun {a x fs} h => by
    obtain ⟨C, dx, vs, hi⟩ := h.ins
    have na : a ≠ d := ne hi fun z => by cases z
    refine ⟨h.aside na fun hq => ?_, by unfold fla; rw [upd_ne na]⟩
    obtain ⟨us, hl⟩ := h.at hq
    rw [hd] at hl; cases hl
  refine ⟨Grow.refl cfg, by unfold borE; rw [List.length_map]; exact st.len, fun i r h => ?_, fun i r p h hb hs => ?_, fun i j r r' p _ h _ ho => (noOwn h ho).elim,
    ⟨st.rg.tb.aside hd (fun ps z => by cases z), fun i j p q me x fs r e _ _ _ _ => (noOwn e rfl).elim, fun i j p p' q me me' x x' fs fs' _ e _ _ _ _ => (noOwn e rfl).elim, fun i p q x fs e z hq => ?_, fun i x fs e => (noOwn e rfl).elim⟩⟩
  · obtain ⟨r0, h0, rfl⟩ := at_ i r h
    obtain ⟨v, e1, q⟩ := st.sl i r0 h0
    refine ⟨v, e1, ?_⟩
    have rd : ∀ (p : Addr) (vs : List (Key × V)), Rd H p (.dK vs) → Rd (upd H d (.frz od (.dK ws))) p (.dK vs) := fun p vs h => by
      rcases h with h | ⟨o, h⟩
      · by_cases z : p = d
        · rw [z, hd] at h
          cases h
          exact .inr ⟨od, by rw [z, upd_same]⟩
        · exact .inl (by rw [upd_ne z]; exact h)
      · have z : p ≠ d := ne h fun z => by cases z
        exact .inr ⟨o, by rw [upd_ne z]; exact h⟩
    cases r0 with
    | d x => exact q
    | ol xs => obtain ⟨p, vs, e, n0, f, hp, q⟩ := q; exact ⟨p, vs, e, by rw [upd_ne (ne hp fun z => by cases z)]; exact hp, q⟩
    | bl xs => obtain ⟨p, vs, e, hp, q⟩ := q; exact ⟨p, vs, e, by rw [upd_ne (ne hp fun z => by cases z)]; exact hp, q⟩
    | od xs => obtain ⟨p, vs, e, n0, f, hp, q⟩ := q; exact ⟨p, vs, e, rd p vs (.inl hp), q⟩
    | bd xs => obtain ⟨p, vs, e, hp, q⟩ := q; exact ⟨p, vs, e, rd p vs hp, q⟩
    | ot xs => obtain ⟨p, vs, e, n0, f, hp, q⟩ := q; exact ⟨p, vs, e, by rw [upd_ne (ne hp fun z => by cases z)]; exact hp, q⟩
    | bt xs => obtain ⟨p, vs, e, hp, q⟩ := q; exact ⟨p, vs, e, by rw [upd_ne (ne hp fun z => by cases z)]; exact hp, q⟩
    | sc ns => exact q
    | t3 x ys kvs => exact t3_mono (Same.refl _) q
    | fd kvs => exact fd_mono (Same.refl _) q
    | ob me x fs => obtain ⟨a, e, h4⟩ := q; exact ⟨a, e, (bo_ h4.bo).1⟩
    | bo x fs => obtain ⟨a, e, h4⟩ := q; exact ⟨a, e, (bo_ h4).1⟩
    | xo a dd c fs => obtain ⟨e, xs, hp, q⟩ := q; exact ⟨e, xs, by rw [upd_ne (ne hp fun z => by cases z)]; exact hp, q⟩
  · obtain ⟨r0, h0, rfl⟩ := at_ i r h
    obtain ⟨v, e1, q⟩ := st.sl i r0 h0
    rw [hs] at e1
    cases e1
    have some_ : ∀ {o : HO}, H p = some o → ∃ o, (upd H d (.frz od (.dK ws))) p = some o := fun {o} h => by
      by_cases z : p = d
      · exact ⟨_, by rw [z, upd_same]⟩
      · exact ⟨o, by rw [upd_ne z]; exact h⟩
    cases r0 with
    | ol xs => obtain ⟨p', vs, e, n0, f, hp, q⟩ := q; cases e; exact some_ hp
    | bl xs => obtain ⟨p', vs, e, hp, q⟩ := q; cases e; exact some_ hp
    | od xs => obtain ⟨p', vs, e, n0, f, hp, q⟩ := q; cases e; exact some_ hp
    | bd xs =>
      obtain ⟨p', vs, e, hp, q⟩ := q
      cases e
      rcases hp with hp | ⟨o, hp⟩
      · exact some_ hp
      · exact some_ hp
    | ot xs => obtain ⟨p', vs, e, n0, f, hp, q⟩ := q; cases e; exact some_ hp
    | bt xs => obtain ⟨p', vs, e, hp, q⟩ := q; cases e; exact some_ hp
    | d x => cases hb
    | sc ns => cases hb
    | xo a dd c fs => cases hb
    | t3 x ys kvs => cases hb
    | fd kvs => cases hb
    | ob me x fs => obtain ⟨a, e, h4⟩ := q; cases e; obtain ⟨C, dx, vs, hi⟩ := h4.ins; exact some_ hi
    | bo x fs => obtain ⟨a, e, h4⟩ := q; cases e; obtain ⟨C, dx, vs, hi⟩ := h4.ins; exact some_ hi
  · obtain ⟨r0, h0, e0⟩ := at_ i _ e
    have hb : BoOk K F H p x fs := by
      cases r0 with
      | ob me y gs => cases e0; exact (st.obAt h0 z).bo
      | bo y gs => cases e0; exact st.boAt h0 z
      | _ => cases e0
    rw [(bo_ hb).2] at hq
    obtain ⟨us, hl⟩ := (bo_ hb).1.at (by rw [(bo_ hb).2]; exact hq)
    exact ⟨_, hl⟩
theorem unlock_grow (c : Cfg F H) (fd : F d = none) (hd : H d = some (.dK ws)) (g : Grow F (upd H d (.frz od (.dK ws))) F1 H1) : H1 d = some (.frz od (.dK ws)) ∧ Grow F H F1 (upd H1 d (.dK ws)) := by
  have h1 : H1 d = some (.frz od (.dK ws)) := g.hh _ _ upd_same
  refine ⟨h1, ⟨⟨fun b o h => ?_, fun b xs h => ?_, g.cfg.nt⟩, g.ff, ⟨fun b o h nt => ?_, fun b ps h => ?_⟩, fun b o h => ?_⟩⟩
  · have : b ≠ d := fun z => by
      rw [z] at h
      rcases g.nw d o h with w | w
      · rw [fd] at w; cases w
      · rw [upd_same] at w; cases w
    rw [upd_ne this]
    exact g.cfg.sub b o h
  · by_cases z : b = d
    · rw [z, upd_same] at h; cases h
    · rw [upd_ne z] at h; exact g.cfg.tup b xs h
  · by_cases z : b = d
    · rw [z, hd] at h
      cases h
      rw [z, upd_same]
    · rw [upd_ne z]
      exact g.hh.st b o (by rw [upd_ne z]; exact h) nt
  · have z : b ≠ d := fun z => by rw [z, hd] at h; cases h
    rw [upd_ne z]
    exact g.hh.tb b ps (by rw [upd_ne z]; exact h)
  · rcases g.nw b o h with w | w
    · exact .inl w
    · by_cases z : b = d
      · rw [z, upd_same] at w; cases w
      · rw [upd_ne z] at w; exact .inr w
end
/-- [.. for k in x if ..], x a slot with a dict of its own -/
def cLcK (i : Nat) (own : List Nat) (g : Tg) (t : VEnv → Rs Bool) (fe : VEnv → Rs RV) : VEnv → Rs RV := fun env => match env[i]? with
  | some (some (.od kvs)) => (match cLc (fun _ => .ok (kvs.map fun e => kPD e.1)) own g t fe (borE env) with
    | .ok (.ol xs) => .ok (.ol xs)
    | _ => .no)
  | _ => .no
section
variable {ca : CA} {W : WX} {X : Cx} {pos : Pos}
theorem snd_lcK {K : PySem.W.Frag} {i : Nat} {own : List Nat} {tg : Tg} {tt : TT} {te : TE} {t : VEnv → Rs Bool} {fe : VEnv → Rs RV} (ho : ∀ i ∈ tgIx tg, i ∈ own) (s1 : SndT K ca W0 tt t) (s2 : SndE K ca W0 te fe) :
    SndE K ca W (tLockE (tLc (iKeys (tVar i)) (tgT K tg) tt te own)) (cLcK i own tg t fe) := by
  intro B F env σ H Q st p
  unfold cLcK at p
  split at p
  · rename_i kvs e1
    obtain ⟨v, hv, d, ws, rfl, n0, fd, hd, kd⟩ := st.sl i _ e1
    refine ⟨d, .dK ws, hd, trivial, fun od => ?_⟩
    have st' := lock_st st hd od fd
    have hd' : (upd H d (.frz od (.dK ws))) d = some (.frz od (.dK ws)) := upd_same
    -- the source, known to be the locked dict
    have si : SndJ K ca W (fun _ H0 R => H0 = upd H d (.frz od (.dK ws)) → R (Itk d od ws) H0) (fun _ => .ok (kvs.map fun e => kPD e.1)) := by
      intro B0 F0 env0 σ0 H0 R st0 q hH
      subst hH
      exact q (Itk d od ws) F0 _ _ (Grow.refl st0.cfg) (kd_keys kd) (jw_keysK hd')
    have main := snd_lc (W := W) ho si s1 s2 _ F (borE env) σ _ (fun v H' => H' d = some (.frz od (.dK ws)) ∧ Q v (upd H' d (.dK ws))) st'
    refine ⟨_, hv, d, od, rfl, .inl ⟨ws, hd', main ?_ rfl⟩⟩
    cases hc : cLc (fun _ => .ok (kvs.map fun e => kPD e.1)) own tg t fe (borE env) with
    | no => rw [hc] at p; exact p.elim
    | ex c fs => rw [hc] at p; exact p.elim
    | ok r =>
      rw [hc] at p
      cases r with
      | ol xs =>
        intro F' H' v g q
        obtain ⟨h1, g2⟩ := unlock_grow st.cfg fd hd g
        obtain ⟨p0, vs, e, m0, f0, hp, q⟩ := q
        have hne : p0 ≠ d := fun z => by rw [z, upd_same] at m0; cases m0
        refine ⟨h1, p F' _ v g2 ⟨p0, vs, e, ?_, f0, ?_, q⟩⟩
        · rw [upd_ne hne] at m0; exact m0
        · rw [upd_ne hne]; exact hp
      | _ => exact p.elim
  · exact p.elim
theorem ve_lcK (i : Nat) {x : Str} {pn : Pos} {elt tg : Expr} {ifs : List Expr} {scope : Scope} {own : List (Str × Nat)} {g : Tg} {t : VEnv → Rs Bool} {fe : VEnv → Rs RV} (hc : X.calm = true) (hN : X.N.Nodup) (ok : BlkOk X.N X.env.scope scope own) (ho : ∀ i ∈ tgIx g, i ∈ own.map (·.2))
    (hg : ∀ (s : Shared) (H : Hp) (C : Addr) (cl : List (Str × Addr)) (fp : List Addr), VG (X.blk s H scope (compEnvC scope cl C X.env) fp) tg g) (ht : ∀ (s : Shared) (H : Hp) (C : Addr) (cl : List (Str × Addr)) (fp : List Addr), VTs ca W0 (X.blk s H scope (compEnvC scope cl C X.env) fp) ifs t)
    (he : ∀ (s : Shared) (H : Hp) (C : Addr) (cl : List (Str × Addr)) (fp : List Addr), VE ca W0 (X.blk s H scope (compEnvC scope cl C X.env) fp) elt fe)
    (hNi : X.N[i]? = some x := by rfl) (hv : Vis X.env.scope x := by first | exact Or.inl rfl | exact Or.inr (Or.inl rfl) | exact Or.inr (Or.inr rfl)) (hd : (x == ("__debug__" : Str)) = false := by decide) (hcd : (x == ("__classdict__" : Str)) = false := by decide) (hs : ∀ z, foldedSetIterable (.Name x pn) X.env z = pure z := by intro _; rfl) :
    VE ca W X (.ListComp elt [⟨tg, .Name x pn, ifs, 0⟩] scope pos) (cLcK i (own.map (·.2)) g t fe) :=
  ⟨_, pe_lock (pe_lc hc hN (pi_keys (pe_var hNi hv hd hcd)) ok (fun s H C cl fp => (show PG _ tg (tgT X.K g) from (hg s H C cl fp).ex)) (fun s H C cl fp => (show PTs _ ifs (tUT X.K ca W0 t) from (ht s H C cl fp).pt)) (fun s H C cl fp => (show PE _ elt (tU X.K ca W0 fe) from (he s H C cl fp).pe)) hs),
    snd_lcK ho (fun B F env σ H Q st q => ⟨B, F, env, st, q⟩ : SndT X.K ca W0 (tUT X.K ca W0 t) t) (fun B F env σ H Q st q => ⟨B, F, env, st, q⟩ : SndE X.K ca W0 (tU X.K ca W0 fe) fe)⟩
/-- y = [.. for k in x ..] on one line -/
theorem vs_setLcK (i : Nat) {j : Nat} {x y : Str} {pn py : Pos} {elt tg : Expr} {ifs : List Expr} {scope : Scope} {own : List (Str × Nat)} {spos : Pos} {g : Tg} {t : VEnv → Rs Bool} {fe : VEnv → Rs RV} (hc : X.calm = true) (hN : X.N.Nodup) (hy : X.N[j]? = some y) (hyl : X.env.scope.names.lookup y = some .local)
    (hsw : swapsWith (.ListComp elt [⟨tg, .Name x pn, ifs, 0⟩] scope pos) (some (.Name y py)) spos.line X.env = pure true) (ok : BlkOk X.N X.env.scope scope own) (ho : ∀ i ∈ tgIx g, i ∈ own.map (·.2))
    (hg : ∀ (s : Shared) (H : Hp) (C : Addr) (cl : List (Str × Addr)) (fp : List Addr), VG (X.blk s H scope (compEnvC scope cl C X.env) fp) tg g) (ht : ∀ (s : Shared) (H : Hp) (C : Addr) (cl : List (Str × Addr)) (fp : List Addr), VTs ca W0 (X.blk s H scope (compEnvC scope cl C X.env) fp) ifs t)
    (he : ∀ (s : Shared) (H : Hp) (C : Addr) (cl : List (Str × Addr)) (fp : List Addr), VE ca W0 (X.blk s H scope (compEnvC scope cl C X.env) fp) elt fe)
    (hNi : X.N[i]? = some x := by rfl) (hv : Vis X.env.scope x := by first | exact Or.inl rfl | exact Or.inr (Or.inl rfl) | exact Or.inr (Or.inr rfl)) (hd : (x == ("__debug__" : Str)) = false := by decide) (hcd : (x == ("__classdict__" : Str)) = false := by decide) (hs : ∀ z, foldedSetIterable (.Name x pn) X.env z = pure z := by intro _; rfl) :
    VS ca W X (.Assign [.Name y py] (.ListComp elt [⟨tg, .Name x pn, ifs, 0⟩] scope pos) spos) (sSet j (cLcK i (own.map (·.2)) g t fe)) := by
  refine ⟨_, ps_lock (ps_setLc hc hN hy hyl hsw (pi_keys (pe_var hNi hv hd hcd)) ok (fun s H C cl fp => (show PG _ tg (tgT X.K g) from (hg s H C cl fp).ex)) (fun s H C cl fp => (show PTs _ ifs (tUT X.K ca W0 t) from (ht s H C cl fp).pt)) (fun s H C cl fp => (show PE _ elt (tU X.K ca W0 fe) from (he s H C cl fp).pe)) hs), fun B F env σ H D st p => ?_⟩
  have se := snd_lcK (W := W) (i := i) (own := own.map (·.2)) ho (fun B F env σ H Q st q => ⟨B, F, env, st, q⟩ : SndT X.K ca W0 (tUT X.K ca W0 t) t) (fun B F env σ H Q st q => ⟨B, F, env, st, q⟩ : SndE X.K ca W0 (tU X.K ca W0 fe) fe)
  show tLockE (tLc (iKeys (tVar i)) (tgT X.K g) (tUT X.K ca W0 t) (tU X.K ca W0 fe) (own.map (·.2))) σ H fun x H1 => D.nx (σ.set j (some x)) H1
  exact outE se st p fun r F1 H1 v p1 g q => snd_put st g q p1
end
/-! ## dict(pairs) -/
def pairsD : List PyData → Option (List (Key × PyData))
  | [] => some []
  | .tuple [k, v] :: r => (keyD k).bind fun k => (pairsD r).map ((k, v) :: ·)
  | _ => none
theorem pairs_ok {K : PySem.W.Frag} {F : Hp} : ∀ {xs : List V} {ds : List PyData} {kvs : List (Key × PyData)}, DqA K F xs ds → pairsD ds = some kvs → ∃ (ps : List Addr) (ws : List (Key × V)), xs = ps.map V.ref ∧ Paired (fun p kv => SqT K F p [kV kv.1, kv.2]) ps ws ∧ KD K F ws kvs
  | _, [], _, h, e => by cases h; cases e; exact ⟨[], [], rfl, .nil, .nil⟩
  | _, d :: ds, kvs, h, e => by
    cases h with
    | cons h1 h2 =>
      cases d with
      | tuple zs =>
        match zs, h1, e with
        | [k, v], h1, e =>
          unfold pairsD at e
          obtain ⟨k', e1, e2⟩ := Option.bind_eq_some_iff.mp e
          obtain ⟨r, e3, e4⟩ := Option.map_eq_some_iff.mp e2
          subst e4
          obtain ⟨ps, ws, rfl, hp, hk⟩ := pairs_ok h2 e3
          cases h1 with
          | @tup a xs' _ s1 s2 =>
            cases s2 with
            | cons q1 q2 =>
              cases q2 with
              | cons q2 q3 =>
                cases q3
                obtain rfl := keyD_ok q1 e1
                exact ⟨a :: ps, (k', _) :: ws, rfl, .cons s1.1 hp, .cons ⟨rfl, q2⟩ hk⟩
        | [], h1, e => cases e
        | [_], h1, e => cases e
        | _ :: _ :: _ :: _, h1, e => cases e
      | _ => cases e
theorem merge_ok {K : PySem.W.Frag} {F : Hp} : ∀ {ws : List (Key × V)} {kvs : List (Key × PyData)} {as : List (Key × V)} {bs : List (Key × PyData)}, KD K F ws kvs → KD K F as bs → KD K F (ws.foldl (fun acc kv => putK acc kv.1 kv.2) as) (kvs.foldl (fun acc kv => dPut acc kv.1 kv.2) bs)
  | [], [], _, _, _, h => h
  | a :: ws, b :: kvs, as, bs, .cons h r, k => by
    rw [List.foldl_cons, List.foldl_cons, h.1]
    exact merge_ok r (k.put b.1 h.2)
  | [], _ :: _, _, _, h, _ => by cases h
  | _ :: _, [], _, _, h, _ => by cases h
def gDictC : List RV → Rs RV
  | [r] => (rsO r.qv).bind fun xs => (rsO (pairsD xs)).bind fun kvs => .ok (.od (kvs.foldl (fun acc kv => dPut acc kv.1 kv.2) []))
  | _ => .no
theorem e_dictC (r : RV) : gDictC [r] = (rsO r.qv).bind fun xs => (rsO (pairsD xs)).bind fun kvs => .ok (.od (kvs.foldl (fun acc kv => dPut acc kv.1 kv.2) [])) := rfl
theorem paired_sqt {K : PySem.W.Frag} {F H : Hp} (e : Same F H) : ∀ {ps : List Addr} {ws : List (Key × V)}, Paired (fun p kv => SqT K F p [kV kv.1, kv.2]) ps ws → Paired (fun p kv => SqT K H p [kV kv.1, kv.2]) ps ws
  | _, _, .nil => .nil
  | _, _, .cons h r => .cons (same_seqT e h) (paired_sqt e r)
theorem c_dictC {K : PySem.W.Frag} {ca : CA} : CaS K ca (fun xs H Q => ∃ (a : Addr) (ps : List Addr) (kvs : List (Key × V)), xs = [.ref a] ∧ SqL K H a (ps.map V.ref) ∧ Paired (fun p kv => SqT K H p [kV kv.1, kv.2]) ps kvs ∧ ∀ p, H p = none → Q (.ref p) (upd H p (.dK (mergeK [] kvs)))) gDictC := by
  intro W σ F0 H0 F H vs as Q gr h p
  unfold gDictC at p
  split at p
  · rename_i r
    obtain ⟨v, rfl, hx⟩ := pr1 h
    cases e : r.qv with
    | none => rw [e] at p; exact p.elim
    | some xs =>
      rw [e] at p
      simp only [rsO_some, Rs.bind_ok] at p
      cases e2 : pairsD xs with
      | none => rw [e2] at p; exact p.elim
      | some kvs =>
        rw [e2] at p
        simp only [rsO_some, Rs.bind_ok] at p
        obtain ⟨q, ws, rfl, hq, dq⟩ := qv_ok gr.cfg.sub hx e
        obtain ⟨ps, wk, rfl, h1, h2⟩ := pairs_ok dq e2
        refine ⟨q, ps, wk, rfl, hq, paired_sqt gr.cfg.sub h1, fun a ha => ?_⟩
        have g2 := Grow.newO gr.cfg (.dK (mergeK [] wk)) ha (fun _ z => by cases z)
        exact p _ _ _ (gr.trans g2) ⟨a, _, rfl, none_n gr.hh ha, same_none gr.cfg.sub ha, upd_same, merge_ok h2 .nil⟩
  · exact p.elim
/-! ## list(range(n)) -/
def cLR (fa : VEnv → Rs RV) : VEnv → Rs RV := fun env => (fa env).bind fun r => match r with
  | .d (.int n) => if 0 ≤ n ∧ n ≤ 1000000 then .ok (.ol ((List.range n.toNat).map fun i : Nat => PyData.int (i : Int))) else .no
  | _ => .no
theorem e_LR (fa : VEnv → Rs RV) (env : VEnv) : cLR fa env = (fa env).bind fun r => match r with
  | .d (.int n) => if 0 ≤ n ∧ n ≤ 1000000 then .ok (.ol ((List.range n.toNat).map fun i : Nat => PyData.int (i : Int))) else .no
  | _ => .no := rfl
theorem rg_dq {K : PySem.W.Frag} {F : Hp} (n : Int) : DqA K F (rgV 0 n) ((List.range n.toNat).map fun i : Nat => PyData.int (i : Int)) := by
  have : ∀ xs : List Nat, DqA K F (xs.map fun i : Nat => V.int (0 + (i : Int))) (xs.map fun i : Nat => PyData.int (i : Int)) := by
    intro xs
    induction xs with
    | nil => exact .nil
    | cons x xs ih => exact .cons (by show Dq K F (V.int (0 + (x : Int))) (PyData.int (x : Int)); rw [Int.zero_add]; exact .int _) ih
  have h := this (List.range n.toNat)
  unfold rgV
  rw [Int.sub_zero]
  exact h
theorem ve_LR {ca : CA} {W : WX} {X : Cx} {a : Expr} {fa : VEnv → Rs RV} {p p2 pos pos2 : Pos} (hc : X.calm = true) (hg : Gl X "list") (hm : X.mg "list" = none) (hg2 : Gl X "range") (hm2 : X.mg "range" = none) (h : VE ca W X a fa)
    (na : starEach [a] X.env = (false, eval a X.env) :: starEach [] X.env := by rfl) (na2 : starEach [Expr.Call (.Name "range" p2) [a] [] pos2] X.env = (false, eval (Expr.Call (.Name "range" p2) [a] [] pos2) X.env) :: starEach [] X.env := by rfl) :
    VE ca W X (.Call (.Name "list" p) [.Call (.Name "range" p2) [a] [] pos2] [] pos) (cLR fa) := by
  obtain ⟨t, pe, s⟩ := h
  refine ⟨_, pe_listRg hc hg hm (prg_1 hg2 hm2 pe na) na2, fun B F env σ H Q st q => ?_⟩
  show t σ H fun x H1 => ∃ n, x = V.int n ∧ RgOk 0 n ∧ ∀ q, H1 q = none → Q (.ref q) (upd H1 q (.lst (rgV 0 n)))
  refine seqE (PostE X.K ca W σ F H Q) s st q (fun _ _ h => h) (fun h => h) fun r F1 H1 v p1 g1 q1 => ?_
  cases r with
  | d x =>
    cases x with
    | int n =>
      simp only at p1
      split at p1
      · rename_i hn
        cases q1
        refine ⟨n, rfl, RgOk.of_le (by omega) (by omega) (by omega) hn.1, fun l hl => ?_⟩
        have g2 := Grow.newO g1.cfg (.lst (rgV 0 n)) hl (fun _ z => by cases z)
        exact p1 _ _ _ (g1.trans g2) ⟨l, _, rfl, none_n g1.hh hl, same_none g1.cfg.sub hl, upd_same, rg_dq n⟩
      · exact p1.elim
    | _ => exact p1.elim
  | _ => exact p1.elim
end VL

namespace VL
open PySem PySem.Spec PyProof.Rows L2
/-! ## t.index(x), l.index(x) -/
def tyN (K : PySem.W.Frag) (x : V) (H : Hp) : Prop := ∃ a xs, x = .ref a ∧ SqN K H a xs
theorem ty_N {X : Cx} : TyOk X "tuple" (tyN X.K) := by
  intro pins σ H s x v I r ty
  obtain ⟨a, xs, rfl, hs, nd⟩ := ty
  cases r
  obtain ⟨its, _, ⟨o, ho, hc, n, hd⟩, _⟩ := I.tuple hs
  refine ⟨⟨o, ho, hc⟩, fun b e => ?_⟩
  cases e
  refine ⟨o, ho, ?_⟩
  rcases nd with ⟨o2, u, h1, h2⟩ | ⟨o2, h1, h2⟩
  · have z : s.heap.get? a = some o2 := (I.hok a _ h1).1
    rw [ho] at z
    cases z
    exact h2
  · have z := I.kIn a o2 h1
    rw [ho] at z
    cases z
    exact h2
def rIxT (K : PySem.W.Frag) : V → List V → Hp → VK → Prop := fun x xs H Q => ∃ (a : Addr) (y : V) (d : PyData) (vs : List V) (ds : List PyData) (j : Nat) (z : PyData), x = V.ref a ∧ xs = [y] ∧ SqT K H a vs ∧ DpAll K H vs ds ∧ Dp K H y d ∧
  SeqAt.shaped (.tuple ds) = true ∧ SeqAt.shaped d = true ∧ ds[j]? = some z ∧ PyData.eqv z d = true ∧ (∀ (m : Nat) (w : PyData), m < j → ds[m]? = some w → PyData.eqv w d = false) ∧ Q (.int (j : Nat)) H
theorem mt_ixT {X : Cx} (hu : X.A.units + 65 < cLine) : MtR X "tuple.index" (rIxT X.K) := by
  intro pins s σ H x xs v us Q I rx rxs h
  obtain ⟨a, y, d, vs, ds, j, z, rfl, rfl, hs, ha, hy, sl, sd, hz, hzj, hno, q⟩ := h
  cases rx
  cases rxs with
  | cons ry rt =>
    rename_i uy ut
    cases rt
    obtain ⟨bs, r1⟩ := Dp.reads I d y uy hy ry
    have hxs : PyData.canLayAll0 ds = true := SeqAt.canLay_of_shaped (d := .tuple ds) sl
    have hroom : X.A.units + 1 + min (PyData.depthAll ds) d.depth < cLine := room_in_shaped sd hu
    obtain ⟨its, rv, ⟨⟨cls, dd, data, sls⟩, ho, hc, n, hdt⟩, hlen⟩ := I.tuple hs
    simp only at hc hdt
    subst hc hdt
    obtain ⟨as, h4⟩ := Dp.readsAll I ds _ its ha rv
    have hn : its.length = ds.length := SeqAt.ReadsAll.length ds its as h4
    have hmap : its.map (SeqAt.readOf s.heap) = ds := SeqAt.readsAll_map ds its as hxs h4
    obtain ⟨hjd, _⟩ := List.getElem?_eq_some_iff.mp hz
    have hj : j < its.toArray.size := by rw [List.size_toArray]; omega
    have at_ : ∀ (m : Nat) (hm : m < its.toArray.size) (w : PyData), ds[m]? = some w → SeqAt.readOf s.heap its.toArray[m] = w := fun m hm w hw => by
      have hml : m < its.length := by simpa using hm
      rw [← hmap, List.getElem?_map, List.getElem?_eq_getElem hml] at hw
      have e1 : SeqAt.readOf s.heap its[m] = w := Option.some.inj (show some (SeqAt.readOf s.heap its[m]) = some w from hw)
      simpa using e1
    refine call_meets PySem.F.slot_tuple_index ⟨_, ho, rfl⟩ PySem.F.entry_tuple_index (PySem.F.args_tuple_index_2 _ _) (TI.tuple_indexAt a its.toArray n dd sls uy (fun u => PyData.eqv (SeqAt.readOf s.heap u) d) j hj ?_ ?_)
      ⟨ho, SeqAt.items_eqAt (vs := its.toArray) (show ReadsAll s.heap its.toArray.toList ds as from h4) r1 hxs (SeqAt.canLay_of_shaped sd) hroom, ⟨.int (j : Nat), H, I.tok _, ⟨_, rfl⟩, q⟩⟩
    · show PyData.eqv (SeqAt.readOf s.heap its.toArray[j]) d = true
      rw [at_ j hj z hz]
      exact hzj
    · intro m hm hmj
      have hz' : ds[m]? = some (ds[m]'(by omega)) := List.getElem?_eq_getElem (by omega)
      show PyData.eqv (SeqAt.readOf s.heap its.toArray[m]) d = false
      rw [at_ m hm _ hz']
      exact hno m _ hmj hz'
/-- the first place of an equal one -/
def gIdxD (ds : List PyData) (r : RV) : Rs RV := (rsO r.data).bind fun x => if SeqAt.shaped x = true ∧ SeqAt.shaped (.tuple ds) = true ∧ SeqAt.shaped (.list ds) = true then (rsO (ds.findIdx? fun z => PyData.eqv z x)).bind fun j => okI (j : Int) else .no
def cIdxT (fa fb : VEnv → Rs RV) : VEnv → Rs RV := fun env => (fa env).bind fun x => (rsO x.tv).bind fun ds => (fb env).bind fun y => gIdxD ds y
def cIdxL (fa fb : VEnv → Rs RV) : VEnv → Rs RV := fun env => (fa env).bind fun x => (rsO x.qv).bind fun ds => (fb env).bind fun y => gIdxD ds y
theorem e_idxT (fa fb : VEnv → Rs RV) (env : VEnv) : cIdxT fa fb env = (fa env).bind fun x => (rsO x.tv).bind fun ds => (fb env).bind fun y => gIdxD ds y := rfl
theorem e_idxL (fa fb : VEnv → Rs RV) (env : VEnv) : cIdxL fa fb env = (fa env).bind fun x => (rsO x.qv).bind fun ds => (fb env).bind fun y => gIdxD ds y := rfl
theorem gIdxD_out {P : Rs RV → Prop} {ds : List PyData} {r : RV} (hn : ¬ P .no) (h : P (gIdxD ds r)) : ∃ (d : PyData) (j : Nat) (z : PyData), r.data = some d ∧ SeqAt.shaped d = true ∧ SeqAt.shaped (.tuple ds) = true ∧ SeqAt.shaped (.list ds) = true ∧ ds[j]? = some z ∧ PyData.eqv z d = true ∧
    (∀ (m : Nat) (w : PyData), m < j → ds[m]? = some w → PyData.eqv w d = false) ∧ P (okI (j : Int)) := by
  unfold gIdxD at h
  cases e1 : r.data with
  | none => rw [e1] at h; exact absurd h hn
  | some d =>
    rw [e1] at h
    simp only [rsO_some, Rs.bind_ok] at h
    split at h
    · rename_i s
      cases e2 : ds.findIdx? fun z => PyData.eqv z d with
      | none => rw [e2] at h; exact absurd h hn
      | some j =>
        rw [e2] at h
        simp only [rsO_some, Rs.bind_ok] at h
        obtain ⟨hj, h1, h2⟩ := List.findIdx?_eq_some_iff_getElem.mp e2
        refine ⟨d, j, ds[j], rfl, s.1, s.2.1, s.2.2, List.getElem?_eq_getElem hj, h1, fun m w hm hw => ?_, h⟩
        obtain ⟨hl, e3⟩ := List.getElem?_eq_some_iff.mp hw
        have := h2 m hm
        rw [e3] at this
        simpa using this
    · exact absurd h hn
section
variable {ca : CA} {W : WX} {X : Cx} {a b : Expr} {fa fb : VEnv → Rs RV} {apos cpos : Pos}
theorem ve_idxT (hu : X.A.units + 65 < cLine) (ha : VE ca W X a fa) (hb : VE ca W X b fb)
    (hbase : attributeBase a "index" X.env (eval a X.env) = eval a X.env := by rfl)
    (hfew : ((backTo cpos (starEach [b] X.env)).all (fun x => !x.1) && (backToKw cpos (keywordEach [] X.env)).all (fun x => x.1.isSome) && decide ([b].length + ([] : List Keyword).length + (if ([] : List Keyword).isEmpty then 0 else 1) < 30)) = true := by rfl)
    (hline : (apos.endLine == cpos.line) = true := by rfl) (hs : starEach [b] X.env = (false, eval b X.env) :: starEach [] X.env := by rfl) :
    VE ca W X (.Call (.Attribute a "index" apos) [b] [] cpos) (cIdxT fa fb) := by
  obtain ⟨ta, pa, sa⟩ := ha
  obtain ⟨tb, pb, sb⟩ := hb
  refine ⟨_, pe_mG ty_N PySem.F.plainAttrs_tuple PySem.F.slot_tuple_index PySem.F.type_tuple_index (mt_ixT hu) pa (pa_cons pb pa_nil hs) hbase hfew hline hs rfl, fun B F env σ H Q st q => ?_⟩
  show ta σ H fun x H1 => tyN X.K x H1 ∧ tb σ H1 fun y H2 => rIxT X.K x [y] H2 Q
  refine seqE (PostE X.K ca W σ F H Q) sa st q (fun _ _ h => h) (fun h => h) fun r F1 H1 v p1 g1 q1 => ?_
  cases e1 : r.tv with
  | none => rw [e1] at p1; exact p1.elim
  | some ds =>
    rw [e1] at p1
    simp only [rsO_some, Rs.bind_ok] at p1
    obtain ⟨p, vs, rfl, t1, t2, dq⟩ := tv_ok g1.cfg.sub q1 e1
    refine ⟨⟨p, vs, rfl, same_seqN g1.cfg.sub t2⟩, ?_⟩
    refine seqE (PostE X.K ca W σ F H Q) sb (st.grow g1) p1 (fun _ _ h => PostX.mono g1 h) (fun h => h) fun y F2 H2 w p2 g2 q2 => ?_
    obtain ⟨d, j, z, h1, h2, h3, _, h4, h5, h6, h7⟩ := gIdxD_out (P := PostE X.K ca W σ F H Q) (fun z => z) p2
    exact ⟨p, w, d, vs, ds, j, z, rfl, rfl, g2.hh.seqT t1, DqA.dp _ _ (DqA.mono (g2.ff.trans g2.cfg.sub) _ _ dq), data_ok g2.cfg.sub q2 h1, h3, h2, h4, h5, h6, h7 F2 H2 _ (g1.trans g2) (.int _)⟩
theorem ve_idxL (hu : X.A.units + 65 < cLine) (ha : VE ca W X a fa) (hb : VE ca W X b fb)
    (hbase : attributeBase a "index" X.env (eval a X.env) = eval a X.env := by rfl)
    (hfew : ((backTo cpos (starEach [b] X.env)).all (fun x => !x.1) && (backToKw cpos (keywordEach [] X.env)).all (fun x => x.1.isSome) && decide ([b].length + ([] : List Keyword).length + (if ([] : List Keyword).isEmpty then 0 else 1) < 30)) = true := by rfl)
    (hline : (apos.endLine == cpos.line) = true := by rfl) (hs : starEach [b] X.env = (false, eval b X.env) :: starEach [] X.env := by rfl) :
    VE ca W X (.Call (.Attribute a "index" apos) [b] [] cpos) (cIdxL fa fb) := by
  obtain ⟨ta, pa, sa⟩ := ha
  obtain ⟨tb, pb, sb⟩ := hb
  refine ⟨_, pe_bm PySem.F.plainAttrs_list PySem.F.slot_list_index PySem.F.type_list_index (mt_indexD hu) pa (pa_cons pb pa_nil hs) hbase hfew hline hs rfl, fun B F env σ H Q st q => ?_⟩
  show ta σ H fun x H1 => tyV X.K "list" x H1 ∧ tb σ H1 fun y H2 => rIndexD X.K x [y] H2 Q
  refine seqE (PostE X.K ca W σ F H Q) sa st q (fun _ _ h => h) (fun h => h) fun r F1 H1 v p1 g1 q1 => ?_
  cases e1 : r.qv with
  | none => rw [e1] at p1; exact p1.elim
  | some ds =>
    rw [e1] at p1
    simp only [rsO_some, Rs.bind_ok] at p1
    obtain ⟨p, vs, rfl, t1, dq⟩ := qv_ok g1.cfg.sub q1 e1
    refine ⟨.inl ⟨rfl, vs, t1⟩, ?_⟩
    refine seqE (PostE X.K ca W σ F H Q) sb (st.grow g1) p1 (fun _ _ h => PostX.mono g1 h) (fun h => h) fun y F2 H2 w p2 g2 q2 => ?_
    obtain ⟨d, j, z, h1, h2, _, h3, h4, h5, h6, h7⟩ := gIdxD_out (P := PostE X.K ca W σ F H Q) (fun z => z) p2
    exact ⟨p, w, d, ds, j, z, rfl, rfl, .lst (g2.hh.seq t1) (DqA.dp _ _ (DqA.mono (g2.ff.trans g2.cfg.sub) _ _ dq)), data_ok g2.cfg.sub q2 h1, h3, h2, h4, h5, h6, h7 F2 H2 _ (g1.trans g2) (.int _)⟩
end
/-! ## sorted(d.values()), the values ints -/
def rSortedV : List V → Hp → VK → Prop := fun vs H Q => ∃ (p a : Addr) (kvs : List (Key × V)) (ks : List Int), vs = [V.ref p] ∧ H p = some (VwO p a) ∧ Rd H a (.dK kvs) ∧ kvs.map (·.2) = ks.map V.int ∧ ks.length < 64 ∧
  ∀ (ys : List Int) (q : Addr), ys.Perm ks → ys.Pairwise (· ≤ ·) → H q = none → Q (.ref q) (upd H q (.lst (ys.map V.int)))
theorem cr_sortedV {X : Cx} (hc : X.calm = true) : CallR X (.builtin "sorted") rSortedV := by
  intro pins s σ H xs us Q I r q
  obtain ⟨p, a, kvs, ks, rfl, hp, ha, hks, h64, q⟩ := q
  obtain ⟨u, rfl, rx⟩ := vals1 r
  cases rx
  have vw : s.heap.get? p = some (vwObj a) := (I.hok p _ hp).1
  obtain ⟨z, lo, vs, rel, dd⟩ := dk_rd I.hok ha
  obtain ⟨ep, hat⟩ := dd.dictAt
  have hlv : vs.length = ks.length := by
    have e1 := congrArg List.length hks
    rw [List.length_map, List.length_map] at e1
    rw [← e1]
    exact (KV.length rel).symm
  have h16 : vs.length ≤ sizeLine := by rw [hlv, sizeLine_eq]; omega
  refine Calls.call_function_entry PyProof.Rows.kind_sorted PyProof.Rows.plain_sorted PyProof.Rows.entry_sorted (PyProof.Rows.args_sorted1 _) ?_
  unfold Builtin.«sorted»
  refine wpAny_bind (m := checkCount "sorted" 1 1 _) (wpAny_pure ?_)
  refine wpAny_bind (PySem.W.kdu_collect (A := X.A.in1) (PySem.W.kdl_values (knd := mixKind X.prog X.w) (kvs := vs) (ep := ep) (r := p) (d := a)) (I.ok.hd hc) ⟨⟨_, vw, rfl, rfl⟩, hat⟩ h16 fun h' tk acc hk hacc => ?_)
  have hal : acc.toList.length = ks.length := by rw [Array.length_toList, hacc.1, hlv]
  have hS : IntsAre acc.toList ks := ints_each hal fun j v e => by
    obtain ⟨k, e1⟩ := hacc.2 j v (by rw [← Array.getElem?_toList]; exact e)
    obtain ⟨x, h1, h2⟩ := KV.at' rel e1
    have e2 : (kvs.map (·.2))[j]? = some x := by rw [List.getElem?_map, h1] <;> rfl
    rw [hks, List.getElem?_map] at e2
    obtain ⟨i, hi, e3⟩ := Option.map_eq_some_iff.mp e2
    subst e3
    obtain ⟨t, e4⟩ := h2
    exact ⟨i, t, hi, e4⟩
  have I1 : Inv X pins σ H { s with heap := h', toks := tk } := I.kept hk
  refine wpAny_bind (wpAny_newList ?_ (by rw [hal, sizeLine_eq]; omega))
  have hoL : (h'.push (seqObj "list" acc.toList.toArray 0)).get? h'.objs.size = some (seqObj "list" acc.toList.toArray 0) := Heap.get?_push_size _ rfl
  show wpAny _ _ _ _ _ { s with heap := h'.push (seqObj "list" acc.toList.toArray 0), toks := tk }
  refine wpAny_bind (wpAny_holding (wpAny_call_entry PyProof.Rows.slot_list_sort ⟨_, hoL, rfl⟩ PyProof.Rows.entry_list_sort
    (PyProof.Rows.list_sort_tree (s := { s with heap := h'.push (seqObj "list" acc.toList.toArray 0), toks := tk }) hoL hS (by rw [hal]; exact h64) fun out ys g1 g2 g3 => ⟨_, rfl, ?_⟩) (PyProof.Rows.args_list_sort _)))
  obtain ⟨e', he'⟩ := PyProof.Rows.sortedHeap_at (vs := acc.toList) (out := out) hoL
  have hlen : (ys.map V.int).length ≤ sizeLine := by
    rw [List.length_map, g2.length_eq, sizeLine_eq]
    omega
  have nn : H h'.objs.size = none := I1.hok.fresh (Nat.le_refl _)
  refine wpAny_pure ⟨_, rfl, .ref h'.objs.size, upd H h'.objs.size (.lst (ys.map V.int)), I1.laid (t' := tk) (fun b u e => ?_) (Nat.le_refl _)
    (show ObjOk X.prog X.w _ _ _ (.lst (ys.map V.int)) from ⟨hlen, out.toList, e', vals_of_ints g1, by rw [Array.toArray_toList]; exact he'⟩), rfl, q ys _ g2 g3 nn⟩
  have hb : b < h'.objs.size := Heap.lt_size e
  rw [PyProof.Rows.sortedHeap_old (Nat.ne_of_lt hb) (by rw [size_push']; exact Nat.lt_succ_of_lt hb)]
  exact Heap.get?_push_of_some _ e
def cSortV (fd : VEnv → Rs RV) : VEnv → Rs RV := fun env => (fd env).bind fun d => (rsO d.dk).bind fun kvs => (rsO (valsK kvs)).bind fun is => if is.length < 64 then .ok (.ol ((isort is).map .int)) else .no
theorem e_sortV (fd : VEnv → Rs RV) (env : VEnv) : cSortV fd env = (fd env).bind fun d => (rsO d.dk).bind fun kvs => (rsO (valsK kvs)).bind fun is => if is.length < 64 then .ok (.ol ((isort is).map .int)) else .no := rfl
theorem ve_sortV {ca : CA} {W : WX} {X : Cx} {oe : Expr} {fd : VEnv → Rs RV} {p pos apos mpos : Pos} (hc : X.calm = true) (hg : Gl X "sorted") (hm : X.mg "sorted" = none) (hd : VE ca W X oe fd) (hbase : attributeBase oe "values" X.env (eval oe X.env) = eval oe X.env := by rfl) (hline : (apos.endLine == mpos.line) = true := by rfl)
    (he : starEach [Expr.Call (.Attribute oe "values" apos) [] [] mpos] X.env = [(false, eval (Expr.Call (.Attribute oe "values" apos) [] [] mpos) X.env)] := by rfl) :
    VE ca W X (.Call (.Name "sorted" p) [.Call (.Attribute oe "values" apos) [] [] mpos] [] pos) (cSortV fd) := by
  obtain ⟨td, pd, sd⟩ := hd
  have e2 : PE X (.Call (.Name "sorted" p) [.Call (.Attribute oe "values" apos) [] [] mpos] [] pos) (tCB rSortedV (tCons (tValsK td) tNil)) := pe_callB (cr_sortedV hc) hg hm (by decide +kernel) (pa_cons (pe_valsK pd hbase hline) pa_nil he) (by decide) (by decide) he rfl
  refine ⟨_, e2, fun B F env σ H Q st q => ?_⟩
  show td σ H fun z H2 => ∃ a kvs, z = V.ref a ∧ Rd H2 a (.dK kvs) ∧ ∀ p, H2 p = none → rSortedV [.ref p] (upd H2 p (VwO p a)) Q
  refine seqE (PostE X.K ca W σ F H Q) sd st q (fun _ _ h => h) (fun h => h) fun d F2 H2 z p2 g2 q2 => ?_
  cases e1 : d.dk with
  | none => rw [e1] at p2; exact p2.elim
  | some kvs =>
    rw [e1] at p2
    simp only [rsO_some, Rs.bind_ok] at p2
    cases e2 : valsK kvs with
    | none => rw [e2] at p2; exact p2.elim
    | some is =>
      rw [e2] at p2
      simp only [rsO_some, Rs.bind_ok] at p2
      split at p2
      · rename_i h64
        obtain ⟨a0, xs, rfl, hp, kd⟩ := dk_ok q2 e1
        refine ⟨a0, xs, rfl, hp, fun p hn => ⟨p, a0, xs, is, rfl, upd_same, ?_, valsK_ok kd e2, h64, fun ys q pm so hq => ?_⟩⟩
        · rcases hp with hp | ⟨o, hp⟩
          · exact .inl (by rw [upd_ne (ne_of_none hp hn)]; exact hp)
          · exact .inr ⟨o, by rw [upd_ne (ne_of_none hp hn)]; exact hp⟩
        · have e5 : ys = isort is := sorted_uniq (pm.trans (isort_perm is).symm) so (isort_sorted is)
          subst e5
          have g3 := Grow.newO g2.cfg (VwO p a0) hn (fun _ z => by cases z)
          have g4 := Grow.newO g3.cfg (.lst ((isort is).map V.int)) hq (fun _ z => by cases z)
          exact p2 _ _ _ ((g2.trans g3).trans g4) ⟨q, _, rfl, none_n g2.hh (none_n g3.hh hq), same_none g3.cfg.sub hq, upd_same, DqA.of_ints _⟩
      · exact p2.elim
/-! ## a tuple of data, a list and a dict: returned, taken apart -/
theorem same_upd {F : Hp} {a : Addr} (o : HO) (h : F a = none) : Same F (upd F a o) := fun b u q => by rw [upd_ne (ne_of_none q h)]; exact q
/-- what stands in a dict of its own stays as it is from here on -/
def tFrz (t : TS) : TS := fun D σ H => ∃ d u, H d = some u ∧ Mut (some u) ∧ ∀ od, t D σ (upd H d (.frz od u))
theorem ps_frz {X : Cx} {st : Stmt} {t : TS} (h : PS X st t) : PS X st (tFrz t) := by
  refine ⟨fun pins s σ H D I hw => ?_⟩
  obtain ⟨d, u, hd, mu, hw⟩ := hw
  obtain ⟨od, I1⟩ := I.lock hd mu
  exact h.run pins s σ _ _ I1 (hw od)
theorem frz_st {K : PySem.W.Frag} {B : Base} {F H : Hp} {env : VEnv} {σ : L2.St} {j : Nat} {kvs : List (Key × PyData)} (st : StOk K ca B F env σ H) (e : env[j]? = some (some (.od kvs))) :
    ∃ d us, H d = some (.dK us) ∧ F d = none ∧ ∀ od, StOk K ca B (upd F d (.frz od (.dK us))) (env.set j (some (.fd kvs))) σ (upd H d (.frz od (.dK us))) := by
  obtain ⟨_, sj, d, us, rfl, d0, df, hd, qd⟩ := st.sl j _ e
  refine ⟨d, us, hd, df, fun od => ?_⟩
  have g1 : Grow B.F B.H F (upd H d (.frz od (.dK us))) := st.gr.write d0 df hd (fun _ z => by cases z)
  have g2 := g1.freeze d0 df (o := .frz od (.dK us)) upd_same
  have sm : Same F (upd F d (.frz od (.dK us))) := same_upd _ df
  have hj : j < env.length := by
    rcases Nat.lt_or_ge j env.length with h | h
    · exact h
    · rw [List.getElem?_eq_none h] at e; cases e
  have back : ∀ {i : Nat} {r : RV}, (env.set j (some (.fd kvs)))[i]? = some (some r) → (r.own = true ∨ r.isB = true) → env[i]? = some (some r) := fun {i r} ei o => by
    by_cases z : j = i
    · subst z
      rw [List.getElem?_set_self hj] at ei
      cases ei
      rcases o with o | o <;> cases o
    · rw [List.getElem?_set_ne z] at ei; exact ei
  have ndk : ∀ {p : Addr} {o : HO}, H p = some o → o ≠ .dK us → p ≠ d := fun {p o} h n z => by
    rw [z, hd] at h
    exact n (Option.some.inj h).symm
  have ind : ∀ {p C dx : Addr} {vs : List (Str × V)}, H p = some (.ins C dx vs) → p ≠ d := fun h => ndk h fun z => by cases z
  have fe : ∀ {p C dx : Addr} {vs : List (Str × V)} {fs : List (Str × FV)}, H p = some (.ins C dx vs) → fla (upd H d (.frz od (.dK us))) p fs = fla H p fs := fun h => by unfold fla; rw [upd_ne (ind h)]
  refine ⟨g2, by rw [List.length_set]; exact st.len, fun i r ei => ?_, fun i r p ei hb es => ?_, fun i k r r' p ne ei ek o1 o2 s1 => ?_,
    ⟨st.rg.tb.to fun P ps f h => ⟨by rw [upd_ne (ndk h fun z => by cases z)]; exact f, upd_ne (ndk h fun z => by cases z)⟩, fun a b p q me x fs r ea za hq eb ob => ?_, fun a b p1 p2 q me me' x x' fs fs' ab ea za eb zb hq hq' => ?_, fun a p1 q x fs ea za hq => ?_, fun a x fs ea => st.rg.me a x fs (back ea (.inl rfl))⟩⟩
  rotate_right 3
  · have ea := back ea (.inl rfl)
    obtain ⟨C, dx, vs, hi⟩ := (st.obAt ea za).ins
    rw [fe hi] at hq
    exact st.rg.o1 a b p q me x fs r ea za hq (back eb (.inl ob)) ob
  · have ea := back ea (.inl rfl)
    have eb := back eb (.inl rfl)
    obtain ⟨C, dx, vs, hi⟩ := (st.obAt ea za).ins
    obtain ⟨C', dx', vs', hi'⟩ := (st.obAt eb zb).ins
    rw [fe hi] at hq
    rw [fe hi'] at hq'
    exact st.rg.o2 a b p1 p2 q me me' x x' fs fs' ab ea za eb zb hq hq'
  · have ea := back ea (.inr rfl)
    obtain ⟨C, dx, vs, hi⟩ := (st.boAt ea za).ins
    rw [fe hi] at hq
    exact st.rg.o3 a p1 q x fs ea za hq
  · by_cases z : j = i
    · subst z
      rw [List.getElem?_set_self hj] at ei
      cases ei
      exact ⟨_, sj, d, us, rfl, ⟨od, upd_same⟩, qd.mono sm⟩
    · rw [List.getElem?_set_ne z] at ei
      obtain ⟨v, e1, q⟩ := st.sl i r ei
      refine ⟨v, e1, ?_⟩
      have nd : ∀ {p : Addr} {o : HO}, H p = some o → o ≠ .dK us → p ≠ d := fun {p o} h n z => by
        rw [z, hd] at h
        exact n (Option.some.inj h).symm
      cases r with
      | d x => exact Dq.mono sm x v q
      | ol xs =>
        obtain ⟨p, vs, ep, n0, f, hp, q⟩ := q
        have n := nd hp (fun z => by cases z)
        exact ⟨p, vs, ep, n0, by rw [upd_ne n]; exact f, by rw [upd_ne n]; exact hp, DqA.mono sm _ _ q⟩
      | bl xs =>
        obtain ⟨p, vs, ep, hp, q⟩ := q
        exact ⟨p, vs, ep, by rw [upd_ne (nd hp (fun z => by cases z))]; exact hp, DqA.mono sm _ _ q⟩
      | od xs =>
        obtain ⟨p, vs, ep, n0, f, hp, q⟩ := q
        subst ep
        have n : p ≠ d := fun z => by
          subst z
          exact st.dis j i (.od kvs) (.od xs) p z e ei rfl rfl sj e1
        exact ⟨p, vs, rfl, n0, by rw [upd_ne n]; exact f, by rw [upd_ne n]; exact hp, q.mono sm⟩
      | bd xs =>
        obtain ⟨p, vs, ep, hp, q⟩ := q
        subst ep
        have n : p ≠ d := fun z => by
          subst z
          obtain ⟨ob, hb⟩ := st.bo i _ p ei rfl e1
          rw [d0] at hb
          cases hb
        exact ⟨p, vs, rfl, hp.imp (fun w => by rw [upd_ne n]; exact w) (fun ⟨o, w⟩ => ⟨o, by rw [upd_ne n]; exact w⟩), q.mono sm⟩
      | ot xs =>
        obtain ⟨p, vs, ep, n0, f, hp, q⟩ := q
        have n := nd hp (fun z => by have z : HO.ext _ = HO.dK us := z; cases z)
        exact ⟨p, vs, ep, n0, by rw [upd_ne n]; exact f, by rw [upd_ne n]; exact hp, q.mono sm⟩
      | bt xs =>
        obtain ⟨p, vs, ep, hp, q⟩ := q
        exact ⟨p, vs, ep, by rw [upd_ne (nd hp (fun z => by have z : HO.ext _ = HO.dK us := z; cases z))]; exact hp, q.mono sm⟩
      | sc ns => obtain ⟨a, ea, q⟩ := q; exact ⟨a, ea, sm.seq q⟩
      | xo a dd c fs => obtain ⟨ea, xs, hp, q⟩ := q; exact ⟨ea, xs, by rw [upd_ne (nd hp (fun z => by cases z))]; exact hp, q.mono sm⟩
      | t3 x ys kvs => exact t3_mono sm q
      | fd kvs => exact fd_mono sm q
      | ob me x fs =>
        obtain ⟨p, ep, h4⟩ := q
        have h5 := h4
        obtain ⟨C, dx, vs, _, hi, n5, f5, _⟩ := h5
        have n := ind hi
        refine ⟨p, ep, h4.to sm n5 (by rw [upd_ne n]; exact f5) (upd_ne n) fun q _ ws nq fq lq => ?_⟩
        have nq2 : q ≠ d := nd lq (fun z => by cases z)
        exact ⟨nq, by rw [upd_ne nq2]; exact fq, by rw [upd_ne nq2]; exact lq⟩
      | bo x fs =>
        obtain ⟨p, ep, h4⟩ := q
        obtain ⟨C, dx, vs, hi⟩ := h4.ins
        exact ⟨p, ep, h4.to sm (upd_ne (ind hi)) fun q _ ws lq => by rw [upd_ne (nd lq (fun z => by cases z))]; exact lq⟩
  · by_cases z : j = i
    · subst z
      rw [List.getElem?_set_self hj] at ei
      cases ei
      cases hb
    · rw [List.getElem?_set_ne z] at ei
      exact st.bo i r p ei hb es
  · by_cases z : j = i
    · subst z
      rw [List.getElem?_set_self hj] at ei
      cases ei
      cases o1
    · rw [List.getElem?_set_ne z] at ei
      by_cases z2 : j = k
      · subst z2
        rw [List.getElem?_set_self hj] at ek
        cases ek
        cases o2
      · rw [List.getElem?_set_ne z2] at ek
        exact st.dis i k r r' p ne ei ek o1 o2 s1
def ret3 (env : VEnv) (i : Nat) (kvs : List (Key × PyData)) (x : PyData) : Out := match env[i]? with
  | some (some (.ol ys)) => .rt (.t3 x ys kvs)
  | _ => .no
def sRet3 (fe : VEnv → Rs RV) (i j : Nat) : VEnv → Out := fun env => match env[j]? with
  | some (some (.od kvs)) => (fe (env.set j (some (.fd kvs)))).out (env.set j (some (.fd kvs))) fun r => (rsO r.toD).out (env.set j (some (.fd kvs))) fun x => ret3 (env.set j (some (.fd kvs))) i kvs x
  | _ => .no
theorem e_ret3 (fe : VEnv → Rs RV) (i j : Nat) (env : VEnv) : sRet3 fe i j env = match env[j]? with
  | some (some (.od kvs)) => (fe (env.set j (some (.fd kvs)))).out (env.set j (some (.fd kvs))) fun r => (rsO r.toD).out (env.set j (some (.fd kvs))) fun x => ret3 (env.set j (some (.fd kvs))) i kvs x
  | _ => .no := rfl
theorem e_ret3b (env : VEnv) (i : Nat) (kvs : List (Key × PyData)) (x : PyData) : ret3 env i kvs x = match env[i]? with
  | some (some (.ol ys)) => .rt (.t3 x ys kvs)
  | _ => .no := rfl
section
variable {ca : CA} {W : WX} {X : Cx} {fa : VEnv → Rs RV}
theorem vs_ret3 (i j : Nat) {x y : Str} {e0 : Expr} {p1 p2 tpos pos : Pos} {k} (he : VE ca W X e0 fa) (hi : X.N[i]? = some x := by rfl) (hj : X.N[j]? = some y := by rfl)
    (vi : Vis X.env.scope x := by first | exact Or.inl rfl | exact Or.inr (Or.inl rfl) | exact Or.inr (Or.inr rfl)) (vj : Vis X.env.scope y := by first | exact Or.inl rfl | exact Or.inr (Or.inl rfl) | exact Or.inr (Or.inr rfl))
    (di : (x == ("__debug__" : Str)) = false := by decide) (dj : (y == ("__debug__" : Str)) = false := by decide) (ci : (x == ("__classdict__" : Str)) = false := by decide) (cj : (y == ("__classdict__" : Str)) = false := by decide)
    (h1 : starEach [e0, .Name x p1, .Name y p2] X.env = (false, eval e0 X.env) :: starEach [.Name x p1, .Name y p2] X.env := by rfl) (h2 : starEach [.Name x p1, .Name y p2] X.env = (false, eval (.Name x p1) X.env) :: starEach [.Name y p2] X.env := by rfl)
    (h3 : starEach [.Name y p2] X.env = (false, eval (.Name y p2) X.env) :: starEach [] X.env := by rfl) : VS ca W X (.Return (some (.Tuple [e0, .Name x p1, .Name y p2] k tpos)) pos) (sRet3 fa i j) := by
  obtain ⟨t, pe, se⟩ := he
  refine ⟨_, ps_frz (ps_ret (pe_tupN (pa_cons pe (pa_cons (pe_var hi vi di ci) (pa_cons (pe_var hj vj dj cj) pa_nil h3) h2) h1))), fun B F0 env0 σ H0 D st0 p => ?_⟩
  unfold sRet3 at p
  split at p
  · rename_i kvs ej
    obtain ⟨d, us, hd, df0, hst⟩ := frz_st st0 ej
    refine ⟨d, .dK us, hd, trivial, fun od => ?_⟩
    have st := hst od
    have hj2 : (env0.set j (some (.fd kvs)))[j]? = some (some (.fd kvs)) := by
      have : j < env0.length := by
        rcases Nat.lt_or_ge j env0.length with h | h
        · exact h
        · rw [List.getElem?_eq_none h] at ej; cases ej
      exact List.getElem?_set_self this
    have sm0 : Same F0 (upd F0 d (.frz od (.dK us))) := same_upd _ df0
    generalize env0.set j (some (.fd kvs)) = env at *
    generalize upd F0 d (.frz od (.dK us)) = F at *
    generalize upd H0 d (.frz od (.dK us)) = H at *
    show t σ H fun u H1 => ∃ v, σ[i]? = some (some v) ∧ ∃ w, σ[j]? = some (some w) ∧ [u, v, w].length ≤ sizeLine ∧ ∀ (o : Obj) q, o.dict = none → H1 q = none → D.rt (.ref q) (upd H1 q (.frz o (.tup [u, v, w])))
    refine outE se st (PostS.mono sm0 p) fun r F1 H1 u q1 g1 q => ?_
    cases e : r.toD with
    | none => rw [e] at q1; exact q1.elim
    | some z =>
      rw [e] at q1
      obtain ⟨F2, g2, s2, q2⟩ := frz g1 (Fz.of q e)
      simp only [rsO_some, Rs.out_ok] at q1
      unfold ret3 at q1
      split at q1
      · rename_i ys e1
        obtain ⟨_, si, l, ws, rfl, l0, lf, hl, ql⟩ := st.sl i _ e1
        obtain ⟨_, sj, d2, us2, rfl, ⟨od2, fd2⟩, qd⟩ := st.sl j _ hj2
        have st2 := st.gr.trans g2
        have lf2 : F2 l = none := g2.stillFree lf hl
        have g3 := st2.freeze l0 lf2 (g2.hh _ _ hl)
        have sm : Same F2 (upd F2 l (.lst ws)) := same_upd _ lf2
        refine ⟨_, si, _, sj, by show 3 ≤ sizeLine; rw [sizeLine_eq]; decide, fun o p no hp => ?_⟩
        have g5 := Grow.newF g3.cfg (.frz o (.tup [u, .ref l, .ref d2])) hp
        have sm5 := sm.trans g5.ff
        refine q1 _ _ _ (g3.trans g5) ⟨p, u, l, d2, ws, us2, rfl, .inl (.inr ⟨o, upd_same⟩), Dq.mono sm5 z u q2, ⟨g5.ff _ _ upd_same, DqA.mono (g2.ff.trans sm5) _ _ ql⟩, ⟨od2, (g2.ff.trans sm5) _ _ fd2⟩, qd.mono (g2.ff.trans sm5)⟩
      · exact q1.elim
  · exact p.elim
/-- its first -/
def gIx3 (a b : RV) : Rs RV := match a, b with
  | .t3 x _ _, .d (.int i) => if i = 0 then .ok (.d x) else .no
  | _, _ => .no
theorem e_ix3 (x : PyData) (ys : List PyData) (kvs : List (Key × PyData)) : gIx3 (.t3 x ys kvs) (.d (.int 0)) = .ok (.d x) := rfl
theorem s_ix3 {K : PySem.W.Frag} {ca : CA} : Op2S K ca (rIx K) gIx3 := by
  intro W σ F0 H0 F H v1 v2 a b Q gr h1 h2 p
  unfold gIx3 at p
  split at p
  · split at p
    · rename_i i hi
      subst hi
      obtain ⟨q, w, l, d, vs, us, rfl, s, qw, _⟩ := h1
      cases h2
      exact .inr (.inl ⟨q, [w, .ref l, .ref d], 0, w, rfl, rfl, same_seqT gr.cfg.sub s, atI_zero _ _, p F H _ gr qw⟩)
    · exact p.elim
  · exact p.elim
/-- a, b, c = e -/
def sUnp3 (i j k : Nat) (fe : VEnv → Rs RV) : VEnv → Out := fun env => (fe env).out env fun r => match r with
  | .t3 x ys kvs => if i < env.length ∧ j < env.length ∧ k < env.length then .nx (((env.set i (some (.d x))).set j (some (.d (.list ys)))).set k (some (.fd kvs))) else .no
  | _ => .no
theorem e_unp3 (i j k : Nat) (fe : VEnv → Rs RV) (env : VEnv) : sUnp3 i j k fe env = (fe env).out env fun r => match r with
  | .t3 x ys kvs => if i < env.length ∧ j < env.length ∧ k < env.length then .nx (((env.set i (some (.d x))).set j (some (.d (.list ys)))).set k (some (.fd kvs))) else .no
  | _ => .no := rfl
theorem vs_unp3 {i j k : Nat} {tg e : Expr} {pos : Pos} (he : VE ca W X e fa) (hg : VG X tg (.tp [i, j, k])) (hs : swapsWithSole [tg] e pos.line X.env = pure false := by rfl) (hw : swappedStores [tg] e X.env = pure none := by rfl)
    (h1 : (assignEach [tg] X.env).map (·.2) = [assign tg X.env] := by rfl) : VS ca W X (.Assign [tg] e pos) (sUnp3 i j k fa) := by
  obtain ⟨t, pe, se⟩ := he
  refine ⟨_, ps_asg pe hg.ex hs hw h1, fun B F env σ H D st p => ?_⟩
  show t σ H fun x H1 => tgT X.K (.tp [i, j, k]) x σ H1 D.nx
  refine outE se st p fun r F1 H1 v p1 g q => ?_
  split at p1
  · rename_i x ys kvs
    split at p1
    · rename_i hl
      obtain ⟨a, w, l, d, vs, us, rfl, s, qw, ⟨ql, qs⟩, qd, qk⟩ := q
      have st1 := st.putE g hl.1 (v := w) (r := .d x) qw rfl rfl
      have st2 := st1.putE (Grow.refl st1.cfg) (i := j) (by rw [List.length_set]; exact hl.2.1) (v := .ref l) (r := .d (.list ys)) (.lst ql qs) rfl rfl
      have st3 := st2.putE (Grow.refl st2.cfg) (i := k) (by rw [List.length_set, List.length_set]; exact hl.2.2) (v := .ref d) (r := .fd kvs) ⟨d, us, rfl, qd, qk⟩ rfl rfl
      exact ⟨a, [w, .ref l, .ref d], rfl, same_seqT st1.cfg.sub s, rfl, w, _, rfl, _, _, rfl, _, _, rfl, rfl, p1 _ _ _ (Same.refl _) st3⟩
    · exact p1.elim
  · exact p1.elim
/-! ## for a, b in d.items(), d a frozen dict -/
def itemsD (kvs : List (Key × PyData)) : List PyData := kvs.map fun e => .tuple [kPD e.1, e.2]
def sForI (tg : Tg) (i : Nat) (f : VEnv → Out) : VEnv → Out := fun env => match env[i]? with
  | some (some (.fd kvs)) => loopF tg f (itemsD kvs) env
  | _ => .no
theorem e_forI (tg : Tg) (i : Nat) (f : VEnv → Out) (env : VEnv) : sForI tg i f env = match env[i]? with
  | some (some (.fd kvs)) => loopF tg f (itemsD kvs) env
  | _ => .no := rfl
theorem tgEs_len : ∀ {is : List Nat} {xs : List PyData} {env env' : VEnv}, tgEs is xs env = some env' → xs.length = is.length
  | [], [], _, _, _ => rfl
  | [], _ :: _, _, _, e => by cases e
  | _ :: _, [], _, _, e => by cases e
  | i :: is, x :: xs, env, env', e => by
    unfold tgEs at e
    split at e
    · rw [List.length_cons, List.length_cons, tgEs_len e]
    · cases e
theorem kd_at {K : PySem.W.Frag} {F : Hp} : ∀ {us : List (Key × V)} {kvs : List (Key × PyData)} {i : Nat} {k : Key} {v : V}, KD K F us kvs → us[i]? = some (k, v) → ∃ d, kvs[i]? = some (k, d) ∧ Dq K F v d
  | _, _, 0, k, v, .cons (b := b) h r, e => by
    cases e
    exact ⟨b.2, by have := h.1; simp only at this; rw [this] <;> rfl, h.2⟩
  | _, _, i + 1, k, v, .cons h r, e => kd_at (i := i) r e
theorem vs_forI (i : Nat) {x : Str} {pn apos cpos tpos pos : Pos} {elts : List Expr} {kk : Nat} {body : List Stmt} {is : List Nat} {f : VEnv → Out} (hp : PassesOwn (model X.prog X.w) X.A X.env X.xe) (hc : X.calm = true) (hg : VG X (.Tuple elts kk tpos) (.tp is)) (hb : VSs ca W X body f)
    (hNi : X.N[i]? = some x := by rfl) (hv : Vis X.env.scope x := by first | exact Or.inl rfl | exact Or.inr (Or.inl rfl) | exact Or.inr (Or.inr rfl)) (hd : (x == ("__debug__" : Str)) = false := by decide) (hcd : (x == ("__classdict__" : Str)) = false := by decide)
    (hbase : attributeBase (.Name x pn) "items" X.env (eval (.Name x pn) X.env) = eval (.Name x pn) X.env := by rfl) (hline : (apos.endLine == cpos.line) = true := by rfl)
    (hs : ∀ z, foldedSetIterable (.Call (.Attribute (.Name x pn) "items" apos) [] [] cpos) X.env z = pure z := by intro _; rfl) :
    VS ca W X (.For (.Tuple elts kk tpos) (.Call (.Attribute (.Name x pn) "items" apos) [] [] cpos) body [] pos) (sForI (.tp is) i f) := by
  obtain ⟨tb, pb, sb⟩ := hb
  refine ⟨_, ps_for hp hc (pi_items (pe_var hNi hv hd hcd) hbase hline) hg.ex pb hs, fun B F env σ H D st p => ?_⟩
  unfold sForI at p
  split at p
  · rename_i kvs ei
    obtain ⟨_, si, d, us, rfl, ⟨od, fd⟩, kd⟩ := st.sl i _ ei
    refine ⟨_, si, d, od, us, rfl, st.cfg.sub _ _ fd, ?_⟩
    have hlen : us.length = kvs.length := Paired.length kd
    refine ⟨fun i m σ H => m = us.length - i ∧ i ≤ us.length ∧ ∃ F' env', Same F F' ∧ StOk X.K ca B F' env' σ H ∧ PostS X.K ca W B F' D (loopF (.tp is) f ((itemsD kvs).drop i) env'), ⟨_, rfl, Nat.zero_le _, F, env, Same.refl _, st, p⟩, ?_⟩
    rintro i m σ2 H2 ⟨rfl, hi, F2, env2, s2, st2, p2⟩
    have s3 : Same F H2 := s2.trans st2.cfg.sub
    by_cases hlt : i < us.length
    · obtain ⟨dd, hx, qx⟩ := kd_at kd (List.getElem?_eq_getElem hlt)
      have hx2 : (itemsD kvs)[i]? = some (.tuple [kPD us[i].1, dd]) := by unfold itemsD; rw [List.getElem?_map, hx]; rfl
      rw [drop_cons hx2] at p2
      unfold loopF at p2
      refine .inr ⟨⟨s3 _ _ fd, hlt⟩, fun σ' H' => ∃ F' env', Same F F' ∧ StOk X.K ca B F' env' σ' H' ∧ PostS X.K ca W B F' D (loopF (.tp is) f ((itemsD kvs).drop (i + 1)) env'), fun σ' H' z => ⟨us.length - (i + 1), by omega, rfl, hlt, z⟩, fun y H' hy => ?_⟩
      obtain ⟨q, k, v, hkv, rfl, hq, rfl⟩ := hy
      rw [List.getElem?_eq_getElem hlt] at hkv
      have hkv : us[i] = (k, v) := Option.some.inj hkv
      cases e3 : tgE (.tp is) (.tuple [kPD us[i].1, dd]) env2 with
      | none => rw [e3] at p2; exact p2.elim
      | some env3 =>
        rw [e3] at p2
        simp only at p2
        have g4 := Grow.newF st2.cfg (.tup [kV k, v]) hq
        have s4 : Same F (upd F2 q (.tup [kV k, v])) := s2.trans g4.ff
        have hls : [kV k, v].length = is.length := tgEs_len (xs := [kPD us[i].1, dd]) e3
        refine ⟨q, [kV k, v], rfl, .inl (.inl upd_same), hls, snd_tgs (st2.grow g4) (.cons (by rw [hkv]; exact kv_dq k) (.cons (Dq.mono s4 dd v (by have qx : Dq X.K F us[i].2 dd := qx; rw [hkv] at qx; exact qx)) .nil)) e3 fun st3 => ?_⟩
        refine sb B _ env3 _ _ _ st3 ?_
        cases e4 : f env3 with
        | nx env' => rw [e4] at p2; exact fun F' σ' H' s st' => ⟨F', env', s4.trans s, st', PostS.mono (g4.ff.trans s) p2⟩
        | ct env' => rw [e4] at p2; exact fun F' σ' H' s st' => ⟨F', env', s4.trans s, st', PostS.mono (g4.ff.trans s) p2⟩
        | bk env' => rw [e4] at p2; exact PostS.mono g4.ff p2
        | rt r => rw [e4] at p2; exact PostS.mono g4.ff p2
        | rm o d => rw [e4] at p2; exact PostS.mono g4.ff p2
        | ex c fs env' => rw [e4] at p2; exact PostS.mono g4.ff p2
        | no => rw [e4] at p2; exact p2
    · have e5 : i = us.length := by omega
      subst e5
      rw [List.drop_eq_nil_of_le (by unfold itemsD; rw [List.length_map, hlen]; exact Nat.le_refl _)] at p2
      exact .inl ⟨⟨s3 _ _ fd, Nat.le_refl _⟩, p2 F2 σ2 H2 (Same.refl _) st2⟩
  · exact p.elim
end
end VL

namespace VL
open PySem PySem.Spec PyProof.Rows L2
/-! ## list(range(a, b)) -/
def cLR2 (fa fb : VEnv → Rs RV) : VEnv → Rs RV := fun env => (fa env).bind fun r => (fb env).bind fun r2 => match r, r2 with
  | .d (.int a), .d (.int b) => if 0 ≤ a ∧ a ≤ b ∧ b ≤ 1000000 then .ok (.ol ((List.range (b - a).toNat).map fun i : Nat => PyData.int (a + (i : Int)))) else .no
  | _, _ => .no
theorem e_LR2 (fa fb : VEnv → Rs RV) (env : VEnv) : cLR2 fa fb env = (fa env).bind fun r => (fb env).bind fun r2 => match r, r2 with
  | .d (.int a), .d (.int b) => if 0 ≤ a ∧ a ≤ b ∧ b ≤ 1000000 then .ok (.ol ((List.range (b - a).toNat).map fun i : Nat => PyData.int (a + (i : Int)))) else .no
  | _, _ => .no := rfl
theorem rg_dq2 {K : PySem.W.Frag} {F : Hp} (a b : Int) : DqA K F (rgV a b) ((List.range (b - a).toNat).map fun i : Nat => PyData.int (a + (i : Int))) := by
  have : ∀ xs : List Nat, DqA K F (xs.map fun i : Nat => V.int (a + (i : Int))) (xs.map fun i : Nat => PyData.int (a + (i : Int))) := by
    intro xs
    induction xs with
    | nil => exact .nil
    | cons x xs ih => exact .cons (.int _) ih
  exact this (List.range (b - a).toNat)
theorem ve_LR2 {ca : CA} {W : WX} {X : Cx} {a b : Expr} {fa fb : VEnv → Rs RV} {p p2 pos pos2 : Pos} (hc : X.calm = true) (hg : Gl X "list") (hm : X.mg "list" = none) (hg2 : Gl X "range") (hm2 : X.mg "range" = none) (ha : VE ca W X a fa) (hb : VE ca W X b fb)
    (na : starEach [a, b] X.env = (false, eval a X.env) :: starEach [b] X.env := by rfl) (nb : starEach [b] X.env = (false, eval b X.env) :: starEach [] X.env := by rfl) (hp : (backTo pos2 (starEach [b] X.env)).any (·.1) = false := by rfl)
    (na2 : starEach [Expr.Call (.Name "range" p2) [a, b] [] pos2] X.env = (false, eval (Expr.Call (.Name "range" p2) [a, b] [] pos2) X.env) :: starEach [] X.env := by rfl) :
    VE ca W X (.Call (.Name "list" p) [.Call (.Name "range" p2) [a, b] [] pos2] [] pos) (cLR2 fa fb) := by
  obtain ⟨ta, pa, sa⟩ := ha
  obtain ⟨tb, pb, sb⟩ := hb
  refine ⟨_, pe_listRg hc hg hm (prg_2 hg2 hm2 pa pb na nb hp) na2, fun B F env σ H Q st q => ?_⟩
  show ta σ H fun x H1 => tb σ H1 fun y H2 => ∃ i j, x = V.int i ∧ y = V.int j ∧ RgOk i j ∧ ∀ q, H2 q = none → Q (.ref q) (upd H2 q (.lst (rgV i j)))
  refine seqE (PostE X.K ca W σ F H Q) sa st q (fun _ _ h => h) (fun h => h) fun r F1 H1 v p1 g1 q1 => ?_
  refine seqE (PostE X.K ca W σ F H Q) sb (st.grow g1) p1 (fun _ _ h => PostX.mono g1 h) (fun h => h) fun r2 F2 H2 w p2 g2 q2 => ?_
  split at p2
  · rename_i i j
    split at p2
    · rename_i hn
      cases q1
      cases q2
      refine ⟨i, j, rfl, rfl, RgOk.of_le (by omega) (by omega) (by omega) (by omega), fun l hl => ?_⟩
      have g12 := g1.trans g2
      have g3 := Grow.newO g12.cfg (.lst (rgV i j)) hl (fun _ z => by cases z)
      exact p2 _ _ _ (g12.trans g3) ⟨l, _, rfl, none_n g12.hh hl, same_none g12.cfg.sub hl, upd_same, rg_dq2 i j⟩
    · exact p2.elim
  · exact p2.elim
end VL

namespace VL
open PySem PySem.Spec PyProof.Rows L2

/-! ## instances: what their fields hold -/
def putFV (f : Str) (v : FV) : List (Str × FV) → List (Str × FV)
  | [] => [(f, v)]
  | (g, x) :: r => if g = f then (g, v) :: r else (g, x) :: putFV f v r
theorem cls_one {K : PySem.W.Frag} {x : Str} {C C' : Addr} (h : ClsNm K x C) (h' : ClsNm K x C') : C = C' := by
  unfold ClsNm at h h'
  rw [h] at h'
  injection h' with h'
  injection h' with h'
  injection h'
theorem FOk.look {K : PySem.W.Frag} {H0 F H : Hp} {f : Str} {fv : FV} : ∀ {vs : List (Str × V)} {fs : List (Str × FV)}, FOk K H0 F H vs fs → fs.lookup f = some fv → ∃ v, vs.lookup f = some v ∧ FVok K H0 F H v fv
  | _, _, .nil, h => by cases h
  | (k, v) :: vs, (k', d') :: fs, .cons h1 h2, h => by
    obtain ⟨e, q⟩ := h1
    have e' : k = k' := e
    subst e'
    by_cases z : f = k
    · subst z
      simp [List.lookup] at h
      subst h
      exact ⟨v, by simp [List.lookup], q⟩
    · have z' : (f == k) = false := by simpa using z
      simp only [List.lookup, z'] at h ⊢
      exact FOk.look h2 h
theorem FBk.look {K : PySem.W.Frag} {F H : Hp} {f : Str} {fv : FV} : ∀ {vs : List (Str × V)} {fs : List (Str × FV)}, FBk K F H vs fs → fs.lookup f = some fv → ∃ v, vs.lookup f = some v ∧ FVb K F H v fv
  | _, _, .nil, h => by cases h
  | (k, v) :: vs, (k', d') :: fs, .cons h1 h2, h => by
    obtain ⟨e, q⟩ := h1
    have e' : k = k' := e
    subst e'
    by_cases z : f = k
    · subst z
      simp [List.lookup] at h
      subst h
      exact ⟨v, by simp [List.lookup], q⟩
    · have z' : (f == k) = false := by simpa using z
      simp only [List.lookup, z'] at h ⊢
      exact FBk.look h2 h
theorem FBk.none {K : PySem.W.Frag} {F H : Hp} {f : Str} : ∀ {vs : List (Str × V)} {fs : List (Str × FV)}, FBk K F H vs fs → fs.lookup f = none → vs.lookup f = none
  | _, _, .nil, h => rfl
  | (k, v) :: vs, (k', d') :: fs, .cons h1 h2, h => by
    obtain ⟨e, q⟩ := h1
    have e' : k = k' := e
    subst e'
    by_cases z : f = k
    · subst z
      simp [List.lookup] at h
    · have z' : (f == k) = false := by simpa using z
      simp only [List.lookup, z'] at h ⊢
      exact FBk.none h2 h
theorem FOk.len {K : PySem.W.Frag} {H0 F H : Hp} {vs : List (Str × V)} {fs : List (Str × FV)} (h : FOk K H0 F H vs fs) : vs.length = fs.length := Paired.length h
theorem FOk.put {K : PySem.W.Frag} {H0 F H : Hp} {f : Str} {v : V} {fv : FV} (q : FVok K H0 F H v fv) : ∀ {vs : List (Str × V)} {fs : List (Str × FV)}, FOk K H0 F H vs fs → FOk K H0 F H (putF f v vs) (putFV f fv fs)
  | _, _, .nil => .cons ⟨rfl, q⟩ .nil
  | (k, w) :: vs, (k', d') :: fs, .cons h1 h2 => by
    obtain ⟨e, q1⟩ := h1
    have e' : k = k' := e
    subst e'
    unfold putF putFV
    by_cases z : k = f
    · rw [if_pos z, if_pos z]; exact .cons ⟨rfl, q⟩ h2
    · rw [if_neg z, if_neg z]; exact .cons ⟨rfl, q1⟩ (FOk.put q h2)
/-- the own lists behind a store: those that were, and the new one -/
theorem lad_put {K : PySem.W.Frag} {H0 F H : Hp} {f : Str} {v : V} {fv : FV} {q : Addr} : ∀ {vs : List (Str × V)} {fs : List (Str × FV)}, FOk K H0 F H vs fs → q ∈ lad (putF f v vs) (putFV f fv fs) → q ∈ lad vs fs ∨ (v = .ref q ∧ ∃ xs, fv = .ol xs)
  | _, _, .nil, h => by
    cases fv with
    | d x => cases v <;> simp [putF, putFV, lad] at h
    | ol xs =>
      cases v with
      | ref a => simp [putF, putFV, lad] at h; exact .inr ⟨by rw [h], xs, rfl⟩
      | _ => simp [putF, putFV, lad] at h
  | (k, w) :: vs, (k', d') :: fs, .cons h1 h2, h => by
    obtain ⟨e, q1⟩ := h1
    have e' : k = k' := e
    subst e'
    unfold putF putFV at h
    by_cases z : k = f
    · rw [if_pos z, if_pos z] at h
      cases fv with
      | d x => exact .inl (by cases v <;> (simp only [lad] at h; cases d' <;> cases w <;> first | exact h | exact List.mem_cons_of_mem _ h))
      | ol xs =>
        cases v with
        | ref a =>
          simp only [lad, List.mem_cons] at h
          rcases h with rfl | h
          · exact .inr ⟨rfl, xs, rfl⟩
          · exact .inl (by cases d' <;> cases w <;> first | exact h | exact List.mem_cons_of_mem _ h)
        | _ => exact .inl (by simp only [lad] at h; cases d' <;> cases w <;> first | exact h | exact List.mem_cons_of_mem _ h)
    · rw [if_neg z, if_neg z] at h
      have up : q ∈ lad (putF f v vs) (putFV f fv fs) → q ∈ lad ((k, w) :: vs) ((k, d') :: fs) ∨ (v = .ref q ∧ ∃ xs, fv = .ol xs) := fun hq => by
        rcases lad_put h2 hq with hq | hq
        · exact .inl (by cases d' <;> cases w <;> first | exact hq | exact List.mem_cons_of_mem _ hq)
        · exact .inr hq
      cases d' with
      | d x => exact up (by cases w <;> exact h)
      | ol xs =>
        cases w with
        | ref a =>
          simp only [lad, List.mem_cons] at h
          rcases h with rfl | h
          · exact .inl (by simp [lad])
          · exact up h
        | _ => exact up h
theorem nodup_put {K : PySem.W.Frag} {H0 F H : Hp} {f : Str} {v : V} {fv : FV} : ∀ {vs : List (Str × V)} {fs : List (Str × FV)}, FOk K H0 F H vs fs → (lad vs fs).Nodup → (∀ q xs, v = .ref q → fv = .ol xs → q ∉ lad vs fs) → (lad (putF f v vs) (putFV f fv fs)).Nodup
  | _, _, .nil, _, _ => by
    cases fv with
    | d x => cases v <;> simp [putF, putFV, lad]
    | ol xs => cases v <;> simp [putF, putFV, lad]
  | (k, w) :: vs, (k', d') :: fs, .cons h1 h2, nd, new => by
    have h12 := h1
    obtain ⟨e, q1⟩ := h1
    have e' : k = k' := e
    subst e'
    have ndt : (lad vs fs).Nodup := by
      cases d' <;> cases w <;> first | exact nd | exact (List.nodup_cons.mp nd).2
    have newt : ∀ q xs, v = .ref q → fv = .ol xs → q ∉ lad vs fs := fun q xs e1 e2 hq => new q xs e1 e2 (by cases d' <;> cases w <;> first | exact hq | exact List.mem_cons_of_mem _ hq)
    unfold putF putFV
    by_cases z : k = f
    · rw [if_pos z, if_pos z]
      cases fv with
      | d x => cases v <;> exact ndt
      | ol xs =>
        cases v with
        | ref a => exact List.nodup_cons.mpr ⟨newt a xs rfl rfl, ndt⟩
        | _ => exact ndt
    · rw [if_neg z, if_neg z]
      have ih := nodup_put (f := f) h2 ndt newt
      cases d' with
      | d x => cases w <;> exact ih
      | ol ys =>
        cases w with
        | ref a =>
          refine List.nodup_cons.mpr ⟨fun ha => ?_, ih⟩
          rcases lad_put h2 ha with hq | ⟨e1, xs, e2⟩
          · exact (List.nodup_cons.mp nd).1 hq
          · exact new a xs e1 e2 (by simp [lad])
        | _ => exact ih

/-! ## a state behind a change of a slot's instance -/
section
variable {K : PySem.W.Frag} {ca : CA} {B : Base} {F H F' H' : Hp} {env : VEnv} {σ : L2.St}
/-- whatever changed lies in the region of the slot's instance or is new -/
structure Chg (B : Base) (F H F' H' : Hp) (R : Addr → Prop) : Prop where
  gr : Grow B.F B.H F' H'
  ff : Same F F'
  out : ∀ a o, ¬ R a → H a = some o → (∀ ps, o ≠ .tbl ps) → H' a = some o
  fout : ∀ a o, ¬ R a → H a = some o → F a = none → F' a = none
  base : ∀ a, R a → B.H a = none
theorem StOk.chg (st : StOk K ca B F env σ H) {i : Nat} {me : Bool} {x x' : Str} {fs fs' : List (Str × FV)} {p : Addr} (e : env[i]? = some (some (.ob me x fs))) (z : σ[i]? = some (some (.ref p)))
    (g : Chg B F H F' H' (fun a => a = p ∨ a ∈ fla H p fs)) (tb : TabOk ca.T F' H') (ob : ObOk K B.H F' H' p x' fs') (new : ∀ q ∈ fla H' p fs', q ∈ fla H p fs ∨ H q = none) : StOk K ca B F' (env.set i (some (.ob me x' fs'))) σ H' := by
  have hi : i < env.length := (List.getElem?_eq_some_iff.mp e).1
  have ob0 := st.obAt e z
  obtain ⟨C0, dx0, us0, hi0⟩ := ob0.ins
  -- another slot's things lie outside
  have nown : ∀ {j : Nat} {r : RV} {a : Addr}, j ≠ i → env[j]? = some (some r) → r.own = true → σ[j]? = some (some (.ref a)) → ¬ (a = p ∨ a ∈ fla H p fs) := fun {j r a} ji ej o sj hR => by
    rcases hR with rfl | hR
    · exact st.dis j i r _ a ji ej e o rfl sj z
    · exact st.rg.o1 i j p a me x fs r e z hR ej o sj
  have nobq : ∀ {j : Nat} {a q : Addr} {me' : Bool} {y : Str} {gs : List (Str × FV)}, j ≠ i → env[j]? = some (some (.ob me' y gs)) → σ[j]? = some (some (.ref a)) → q ∈ fla H a gs → ¬ (q = p ∨ q ∈ fla H p fs) := fun {j a q me' y gs} ji ej sj hq hR => by
    rcases hR with rfl | hR
    · obtain ⟨_, _, ws, hl⟩ := (st.obAt ej sj).at hq
      rw [hi0] at hl; cases hl
    · exact st.rg.o2 j i a p q me' me y x gs fs ji ej sj e z hq hR
  have nbase : ∀ {a : Addr} {o : HO}, B.H a = some o → ¬ (a = p ∨ a ∈ fla H p fs) := fun h hR => by
    have := g.base _ hR
    rw [h] at this; cases this
  have back : ∀ {j : Nat} {r : RV}, (env.set i (some (.ob me x' fs')))[j]? = some (some r) → (j = i ∧ r = .ob me x' fs') ∨ (j ≠ i ∧ env[j]? = some (some r)) := fun {j r} ej => by
    by_cases h : i = j
    · subst h
      rw [List.getElem?_set_self hi] at ej
      cases ej
      exact .inl ⟨rfl, rfl⟩
    · rw [List.getElem?_set_ne h] at ej; exact .inr ⟨Ne.symm h, ej⟩
  -- fields of another instance stand
  have fob : ∀ {j : Nat} {a : Addr} {me' : Bool} {y : Str} {gs : List (Str × FV)}, j ≠ i → env[j]? = some (some (.ob me' y gs)) → σ[j]? = some (some (.ref a)) → fla H' a gs = fla H a gs := fun {j a me' y gs} ji ej sj => by
    obtain ⟨C, dx, vs, hi⟩ := (st.obAt ej sj).ins
    rw [fla_eq gs hi, fla_eq gs (g.out _ _ (nown ji ej rfl sj) hi (fun ps z => by cases z))]
  have fbo : ∀ {j : Nat} {a : Addr} {y : Str} {gs : List (Str × FV)}, env[j]? = some (some (.bo y gs)) → σ[j]? = some (some (.ref a)) → fla H' a gs = fla H a gs := fun {j a y gs} ej sj => by
    obtain ⟨C, dx, vs, hi⟩ := (st.boAt ej sj).ins
    obtain ⟨o, ho⟩ := st.bo j _ a ej rfl sj
    rw [fla_eq gs hi, fla_eq gs (g.out _ _ (nbase ho) hi (fun ps z => by cases z))]
  have newq : ∀ {q : Addr}, q ∈ fla H' p fs' → q ∈ fla H p fs ∨ H q = none := fun hq => new _ hq
  refine ⟨g.gr, by simpa using st.len, fun j r ej => ?_, fun j r a ej o s => ?_, fun j k r r' a jk e1 e2 o1 o2 z1 z2 => ?_,
    ⟨tb, fun a b p1 q me1 y gs r ea za hq eb ob' => ?_, fun a b p1 p2 q me1 me2 y y' gs gs' ab ea za eb zb hq hq' => ?_, fun a p1 q y gs ea za hq => ?_, fun a y gs ea => ?_⟩⟩
  · rcases back ej with ⟨rfl, rfl⟩ | ⟨ji, ej⟩
    · exact ⟨_, z, p, rfl, ob⟩
    · obtain ⟨w, ew, q⟩ := st.sl j r ej
      refine ⟨w, ew, ?_⟩
      have out1 : ∀ {a : Addr} {o : HO}, r.own = true → w = .ref a → H a = some o → (∀ ps, o ≠ .tbl ps) → H' a = some o := fun {a o} ow ev h nt => g.out a o (nown ji ej ow (ev ▸ ew)) h nt
      have fout1 : ∀ {a : Addr} {o : HO}, r.own = true → w = .ref a → H a = some o → F a = none → F' a = none := fun {a o} ow ev h f => g.fout a o (nown ji ej ow (ev ▸ ew)) h f
      have outb : ∀ {a : Addr} {o : HO}, r.isB = true → w = .ref a → H a = some o → (∀ ps, o ≠ .tbl ps) → H' a = some o := fun {a o} ow ev h nt => by
        obtain ⟨ob, hb⟩ := st.bo j r a ej ow (ev ▸ ew)
        exact g.out a o (nbase hb) h nt
      cases r with
      | d y => exact Dq.mono g.ff y w q
      | ol ys => obtain ⟨a, ws, ev, n, f2, h2, q4⟩ := q; exact ⟨a, ws, ev, n, fout1 rfl ev h2 f2, out1 rfl ev h2 (fun _ z => by cases z), DqA.mono g.ff _ _ q4⟩
      | od ys => obtain ⟨a, ws, ev, n, f2, h2, q4⟩ := q; exact ⟨a, ws, ev, n, fout1 rfl ev h2 f2, out1 rfl ev h2 (fun _ z => by cases z), q4.mono g.ff⟩
      | ot ys => obtain ⟨a, ws, ev, n, f2, h2, q4⟩ := q; exact ⟨a, ws, ev, n, fout1 rfl ev h2 f2, out1 rfl ev h2 (fun ps z => by have z : HO.ext _ = HO.tbl ps := z; cases z), q4.mono g.ff⟩
      | bl ys => obtain ⟨a, ws, ev, h2, q4⟩ := q; exact ⟨a, ws, ev, outb rfl ev h2 (fun _ z => by cases z), DqA.mono g.ff _ _ q4⟩
      | bd ys => obtain ⟨a, ws, ev, h2, q4⟩ := q; exact ⟨a, ws, ev, h2.imp (fun h => outb rfl ev h (fun _ z => by cases z)) (fun ⟨o, h⟩ => ⟨o, outb rfl ev h (fun _ z => by cases z)⟩), q4.mono g.ff⟩
      | bt ys => obtain ⟨a, ws, ev, h2, q4⟩ := q; exact ⟨a, ws, ev, outb rfl ev h2 (fun ps z => by have z : HO.ext _ = HO.tbl ps := z; cases z), q4.mono g.ff⟩
      | sc ns => obtain ⟨a, ev, q4⟩ := q; exact ⟨a, ev, g.ff.seq q4⟩
      | t3 y ys kvs => exact t3_mono g.ff q
      | fd kvs => exact fd_mono g.ff q
      | xo a dd c gs =>
        obtain ⟨ev, ws, h2, q4⟩ := q
        refine ⟨ev, ws, g.out dd _ (fun hR => ?_) h2 (fun _ z => by cases z), q4.mono g.ff⟩
        rcases hR with rfl | hR
        · rw [hi0] at h2; cases h2
        · obtain ⟨_, _, us, hl⟩ := ob0.at hR
          rw [hl] at h2; cases h2
      | ob me' y gs =>
        obtain ⟨a, ev, h4⟩ := q
        subst ev
        have h5 := h4
        obtain ⟨C, dx, vs, _, h1, n5, f5, _⟩ := h5
        refine ⟨a, rfl, h4.to g.ff n5 (fout1 rfl rfl h1 f5) ((out1 rfl rfl h1 (fun _ z => by cases z)).trans h1.symm) fun q hq ws nq fq lq => ?_⟩
        have nR := nobq ji ej ew hq
        exact ⟨nq, g.fout q _ nR lq fq, g.out q _ nR lq (fun _ z => by cases z)⟩
      | bo y gs =>
        obtain ⟨a, ev, h4⟩ := q
        subst ev
        obtain ⟨C, dx, vs, h1⟩ := h4.ins
        refine ⟨a, rfl, h4.to g.ff ((outb rfl rfl h1 (fun _ z => by cases z)).trans h1.symm) fun q hq ws lq => ?_⟩
        obtain ⟨o, ho⟩ := st.rg.o3 j a q y gs ej ew hq
        exact g.out q _ (nbase ho) lq (fun _ z => by cases z)
  · rcases back ej with ⟨rfl, rfl⟩ | ⟨ji, ej⟩
    · cases o
    · exact st.bo j r a ej o s
  · rcases back e1 with ⟨rfl, rfl⟩ | ⟨ji, ej⟩
    · rcases back e2 with ⟨rfl, rfl⟩ | ⟨ki, ek⟩
      · exact absurd rfl jk
      · exact st.dis j k _ r' a jk e ek rfl o2 z1 z2
    · rcases back e2 with ⟨rfl, rfl⟩ | ⟨ki, ek⟩
      · exact st.dis j k r _ a jk ej e o1 rfl z1 z2
      · exact st.dis j k r r' a jk ej ek o1 o2 z1 z2
  · rcases back ea with ⟨rfl, h⟩ | ⟨ai, ea⟩
    · cases h
      rw [z] at za
      cases za
      intro zb
      rcases newq hq with hq | hn
      · rcases back eb with ⟨rfl, h⟩ | ⟨bi, eb⟩
        · rw [z] at zb
          cases zb
          obtain ⟨_, _, ws, hl⟩ := ob0.at hq
          rw [hi0] at hl; cases hl
        · exact st.rg.o1 a b p q me x fs r e z hq eb ob' zb
      · rcases back eb with ⟨rfl, h⟩ | ⟨bi, eb⟩
        · rw [z] at zb
          cases zb
          rw [hi0] at hn; cases hn
        · obtain ⟨w, ew, qw⟩ := st.sl b r eb
          rw [zb] at ew
          cases ew
          obtain ⟨_, _, u, hu⟩ := own_some ob' qw
          rw [hn] at hu; cases hu
    · have ea1 : env[a]? = some (some (.ob me1 y gs)) := ea
      rw [fob ai ea1 za] at hq
      rcases back eb with ⟨rfl, h⟩ | ⟨bi, eb⟩
      · exact st.rg.o1 a b p1 q me1 y gs _ ea1 za hq e rfl
      · exact st.rg.o1 a b p1 q me1 y gs r ea1 za hq eb ob'
  · have lo : ∀ {j : Nat} {a q : Addr} {me' : Bool} {y : Str} {gs : List (Str × FV)}, j ≠ i → env[j]? = some (some (.ob me' y gs)) → σ[j]? = some (some (.ref a)) → q ∈ fla H a gs → q ∈ fla H' p fs' → False := fun {j a q me' y gs} ji ej sj hq hq' => by
      rcases newq hq' with h | h
      · exact nobq ji ej sj hq (.inr h)
      · obtain ⟨_, _, ws, hl⟩ := (st.obAt ej sj).at hq
        rw [h] at hl; cases hl
    rcases back ea with ⟨rfl, h⟩ | ⟨ai, ea⟩
    · rcases back eb with ⟨rfl, h'⟩ | ⟨bi, eb⟩
      · exact absurd rfl ab
      · cases h
        rw [z] at za
        cases za
        rw [fob bi eb zb] at hq'
        exact lo bi eb zb hq' hq
    · have ea1 : env[a]? = some (some (.ob me1 y gs)) := ea
      rw [fob ai ea1 za] at hq
      rcases back eb with ⟨rfl, h'⟩ | ⟨bi, eb⟩
      · cases h'
        rw [z] at zb
        cases zb
        exact lo ai ea1 za hq hq'
      · rw [fob bi eb zb] at hq'
        exact st.rg.o2 a b p1 p2 q me1 me2 y y' gs gs' ab ea1 za eb zb hq hq'
  · rcases back ea with ⟨rfl, h⟩ | ⟨ai, ea⟩
    · cases h
    · rw [fbo ea za] at hq
      exact st.rg.o3 a p1 q y gs ea za hq
  · rcases back ea with ⟨rfl, h⟩ | ⟨ai, ea⟩
    · cases h
      exact st.rg.me a x fs e
    · exact st.rg.me a y gs ea
end
end VL

namespace VL
open PySem PySem.Spec PyProof.Rows L2

/-! ## fields read and stored -/
structure ClsT (K : PySem.W.Frag) (cn : Str) (C : Addr) : Prop where
  nm : ClsNm K cn C
  cl : Cls K C
def obOf : RV → Option (Str × List (Str × FV))
  | .ob _ x fs => some (x, fs)
  | .bo x fs => some (x, fs)
  | _ => none
def fvR : FV → RV
  | .d y => .d y
  | .ol xs => .bl xs
/-- o.f, o a slot's instance of the class named cn -/
def cFld (cn : Str) (i : Nat) (f : Str) : VEnv → Rs RV := fun env => match env[i]? with
  | some (some r) => (rsO (obOf r)).bind fun o => if o.1 = cn then (rsO (o.2.lookup f)).bind fun fv => .ok (fvR fv) else .no
  | _ => .no
theorem obOf_ok {K : PySem.W.Frag} {H0 F H : Hp} {v : V} {r : RV} {x : Str} {fs : List (Str × FV)} (h : RVok K H0 F H v r) (e : obOf r = some (x, fs)) : ∃ p, v = .ref p ∧ BoOk K F H p x fs := by
  cases r with
  | ob me y gs => cases e; obtain ⟨p, ev, h⟩ := h; exact ⟨p, ev, h.bo⟩
  | bo y gs => cases e; exact h
  | _ => cases e
theorem fvR_ok {K : PySem.W.Frag} {H0 F H : Hp} {v : V} {fv : FV} (h : FVb K F H v fv) : RVok K H0 F H v (fvR fv) := by
  cases fv with
  | d y => exact h
  | ol xs => exact h
section
variable {ca : CA} {W : WX} {X : Cx} {a b e : Expr} {es : List Expr} {fa fb : VEnv → Rs RV} {pos : Pos}
theorem ve_fld {cn f x : Str} {C : Addr} {p : Pos} (i : Nat) (T : ClsT X.K cn C) (n : NoAttr X.K C f) (hN : X.N[i]? = some x := by rfl) (hv : Vis X.env.scope x := by first | exact Or.inl rfl | exact Or.inr (Or.inl rfl) | exact Or.inr (Or.inr rfl)) (hd : (x == ("__debug__" : Str)) = false := by decide)
    (hcd : (x == ("__classdict__" : Str)) = false := by decide) (hb : attributeBase (.Name x p) f X.env (eval (.Name x p) X.env) = eval (.Name x p) X.env := by rfl) : VE ca W X (.Attribute (.Name x p) f pos) (cFld cn i f) := by
  refine ⟨_, pe_fld (pe_var hN hv hd hcd) hb, fun B F env σ H Q st q => ?_⟩
  unfold cFld at q
  split at q
  · rename_i r er
    obtain ⟨v, ev, h⟩ := st.sl i r er
    cases eo : obOf r with
    | none => rw [eo] at q; exact q.elim
    | some o =>
      obtain ⟨y, fs⟩ := o
      rw [eo] at q
      simp only [rsO_some, Rs.bind_ok] at q
      split at q
      · rename_i hy
        cases ef : fs.lookup f with
        | none => rw [ef] at q; exact q.elim
        | some fv =>
          rw [ef] at q
          obtain ⟨p', rfl, C', dx, vs, hc, hp, fk⟩ := obOf_ok h eo
          have eC := cls_one (hy ▸ hc) T.nm
          subst eC
          obtain ⟨w, lw, qw⟩ := fk.look ef
          exact ⟨_, ev, p', C', dx, vs, w, rfl, hp, T.cl, n, lw, q F H w (Grow.refl st.cfg) (fvR_ok qw)⟩
      · exact q.elim
  · exact q.elim
end
section
variable {K : PySem.W.Frag} {ca : CA} {B : Base} {F H F1 H1 : Hp} {env : VEnv} {σ : L2.St}
/-- behind a store: v was made over H, or is frozen -/
theorem StOk.setF (st : StOk K ca B F env σ H) (g : Grow F H F1 H1) {i : Nat} {me : Bool} {x f : Str} {fs : List (Str × FV)} {p C dx : Addr} {vs : List (Str × V)} {v : V} {fv : FV} (e : env[i]? = some (some (.ob me x fs))) (z : σ[i]? = some (some (.ref p))) (hp : H p = some (.ins C dx vs))
    (q : FVok K H F1 H1 v fv) : StOk K ca B F1 (env.set i (some (.ob me x (putFV f fv fs)))) σ (upd H1 p (.ins C dx (putF f v vs))) := by
  have ob := st.obAt e z
  obtain ⟨C', dx', vs', hc, hp', n0, f0, fo, nd⟩ := ob
  rw [hp] at hp'
  cases hp'
  have st1 := st.grow g
  have hp1 : H1 p = some (.ins C dx vs) := g.hh _ _ hp
  have f1 : F1 p = none := g.stillFree f0 hp
  have fo1 : FOk K B.H F1 H1 vs fs := fo.to g.ff fun q' _ ws n fq lq => ⟨n, g.stillFree fq lq, g.hh _ _ lq⟩
  have q1 : FVok K B.H F1 H1 v fv := by
    cases fv with
    | d y => exact q
    | ol xs => obtain ⟨q', ws, ev, n, r⟩ := q; exact ⟨q', ws, ev, none_n st.gr.hh n, r⟩
  have lst_ne : ∀ {q' : Addr} {ws : List V}, H1 q' = some (.lst ws) → q' ≠ p := fun h w => by rw [w, hp1] at h; cases h
  refine st.chg e z ⟨st1.gr.write n0 f1 hp1 (fun _ z => by cases z), g.ff, fun a o nR h nt => ?_, fun a o nR h fa => g.stillFree fa h, fun a hR => ?_⟩ (st1.rg.tb.aside hp1 (fun ps z => by cases z)) ?_ fun q' hq => ?_
  · rw [upd_ne (fun w => nR (.inl w))]
    exact g.hh.st a o h nt
  · rcases hR with rfl | hR
    · exact n0
    · rw [fla_eq fs hp] at hR
      exact (fo.at hR).1
  · refine ⟨C, dx, putF f v vs, hc, upd_same, n0, f1, ?_, ?_⟩
    · exact (FOk.put q1 fo1).to (Same.refl _) fun q' _ ws n fq lq => ⟨n, fq, by rw [upd_ne (lst_ne lq)]; exact lq⟩
    · refine nodup_put fo nd fun q' xs ev ef hq => ?_
      subst ev ef
      obtain ⟨q2, ws, ev, n, _⟩ := q
      cases ev
      obtain ⟨_, _, ws', hl⟩ := fo.at hq
      rw [n] at hl; cases hl
  · rw [fla_eq _ upd_same] at hq
    rcases lad_put fo hq with h | ⟨ev, xs, ef⟩
    · exact .inl (by rw [fla_eq fs hp]; exact h)
    · subst ev ef
      obtain ⟨q2, ws, ev, n, _⟩ := q
      cases ev
      exact .inr n
end
/-- what a field gets: own: a list of the object's own -/
def fvOf (own : Bool) (r : RV) : Option FV := if own = true then (match r with | .ol xs => some (.ol xs) | _ => none) else r.toD.map .d
def sFldS (cn : Str) (own : Bool) (i : Nat) (f : Str) (fe : VEnv → Rs RV) : VEnv → Out := fun env => (fe env).out env fun r => match env[i]? with
  | some (some (.ob me x fs)) => if x = cn ∧ fs.length ≤ 900 then (rsO (fvOf own r)).out env fun fv => .nx (env.set i (some (.ob me x (putFV f fv fs)))) else .no
  | _ => .no
section
variable {ca : CA} {W : WX} {X : Cx} {a b e : Expr} {es : List Expr} {fa fb : VEnv → Rs RV} {pos : Pos}
theorem vs_fldS {cn f x : Str} {C : Addr} {p pos' : Pos} (own : Bool) (i : Nat) (T : ClsT X.K cn C) (n : NoAttr X.K C f) (he : VE ca W X e fa) (hs : swapsWith e (some (.Attribute (.Name x p) f pos')) pos.line X.env = pure false := by rfl)
    (hN : X.N[i]? = some x := by rfl) (hv : Vis X.env.scope x := by first | exact Or.inl rfl | exact Or.inr (Or.inl rfl) | exact Or.inr (Or.inr rfl)) (hd : (x == ("__debug__" : Str)) = false := by decide)
    (hcd : (x == ("__classdict__" : Str)) = false := by decide) : VS ca W X (.Assign [.Attribute (.Name x p) f pos'] e pos) (sFldS cn own i f fa) := by
  obtain ⟨t, pe, se⟩ := he
  refine ⟨_, ps_fld (pe_var hN hv hd hcd) pe hs, fun B F env σ H D st q => ?_⟩
  show t σ H fun y H1 => ∃ u, σ[i]? = some (some u) ∧ (∃ a C dx fs, u = .ref a ∧ H1 a = some (.ins C dx fs) ∧ Cls X.K C ∧ NoAttr X.K C f ∧ fs.length < 1000 ∧ D.nx σ (upd H1 a (.ins C dx (putF f y fs))))
  unfold sFldS at q
  refine outE se st q fun r F1 H1 v q1 g rv => ?_
  split at q1
  · rename_i me y fs er
    split at q1
    · rename_i hy
      obtain ⟨rfl, hl⟩ := hy
      cases ef : fvOf own r with
      | none => rw [ef] at q1; exact q1.elim
      | some fv =>
        rw [ef] at q1
        simp only [rsO_some, Rs.out_ok] at q1
        obtain ⟨u, ev, p', rfl, ob⟩ := st.sl i _ er
        obtain ⟨C', dx, vs, hc, hp, n0, f0, fo, nd⟩ := ob
        have eC := cls_one hc T.nm
        subst eC
        refine ⟨_, ev, p', C', dx, vs, rfl, g.hh _ _ hp, T.cl, n, by rw [fo.len]; omega, ?_⟩
        unfold fvOf at ef
        split at ef
        · cases r with
          | ol xs =>
            cases ef
            exact q1 _ σ _ (Same.refl _) (st.setF g er ev hp rv)
          | _ => cases ef
        · obtain ⟨d, ed, rfl⟩ := Option.map_eq_some_iff.mp ef
          obtain ⟨F2, g2, s2, q2⟩ := frz g (Fz.of rv ed)
          exact q1 _ σ _ s2 (st.setF (fv := .d d) g2 er ev hp q2)
    · exact q1.elim
  · exact q1.elim
end
/-! ## lists of a field -/
section
variable {K : PySem.W.Frag} {ca : CA} {B : Base} {F H : Hp} {env : VEnv} {σ : L2.St}
theorem lad_mem {K : PySem.W.Frag} {H0 F H : Hp} {f : Str} {xs : List PyData} {q : Addr} : ∀ {vs : List (Str × V)} {fs : List (Str × FV)}, FOk K H0 F H vs fs → vs.lookup f = some (.ref q) → fs.lookup f = some (.ol xs) → q ∈ lad vs fs
  | _, _, .nil, h, _ => by cases h
  | (k, w) :: vs, (k', d') :: fs, .cons h1 h2, h, h' => by
    obtain ⟨e, q1⟩ := h1
    have e' : k = k' := e
    subst e'
    by_cases z : f = k
    · subst z
      simp [List.lookup] at h h'
      subst h h'
      simp [lad]
    · have z' : (f == k) = false := by simpa using z
      simp only [List.lookup, z'] at h h'
      have := lad_mem h2 h h'
      cases d' <;> cases w <;> first | exact this | exact List.mem_cons_of_mem _ this
/-- the fields behind a change of one list -/
theorem FOk.list {K : PySem.W.Frag} {H0 F H : Hp} {f : Str} {xs xs' : List PyData} {q : Addr} {ws ws' : List V} (hq : H q = some (.lst ws)) (n : H0 q = none) (fq : F q = none) (dq : DqA K F ws' xs') : ∀ {vs : List (Str × V)} {fs : List (Str × FV)}, FOk K H0 F H vs fs → (lad vs fs).Nodup → vs.lookup f = some (.ref q) → fs.lookup f = some (.ol xs) →
    FOk K H0 F (upd H q (.lst ws')) vs (putFV f (.ol xs') fs) ∧ lad vs (putFV f (.ol xs') fs) = lad vs fs
  | _, _, .nil, _, h, _ => by cases h
  | (k, w) :: vs, (k', d') :: fs, .cons h1 h2, nd, h, h' => by
    obtain ⟨e, q1⟩ := h1
    have e' : k = k' := e
    subst e'
    unfold putFV
    by_cases z : f = k
    · subst z
      simp [List.lookup] at h h'
      subst h h'
      rw [if_pos rfl]
      have nd' : q ∉ lad vs fs := (List.nodup_cons.mp nd).1
      refine ⟨.cons ⟨rfl, q, ws', rfl, n, fq, upd_same, dq⟩ (FOk.to (Same.refl _) h2 fun q' hq' us n' f' l' => ⟨n', f', ?_⟩), by simp [lad]⟩
      rw [upd_ne (show q' ≠ q from fun w => nd' (w ▸ hq'))]
      exact l'
    · have z' : (f == k) = false := by simpa using z
      simp only [List.lookup, z'] at h h'
      have ndt : (lad vs fs).Nodup := by
        cases d' <;> cases w <;> first | exact nd | exact (List.nodup_cons.mp nd).2
      obtain ⟨ih1, ih2⟩ := FOk.list hq n fq dq h2 ndt h h'
      rw [if_neg (Ne.symm z)]
      have hmem := lad_mem h2 h h'
      refine ⟨.cons ⟨rfl, ?_⟩ ih1, by cases d' <;> cases w <;> simp [lad, ih2]⟩
      cases d' with
      | d y => exact q1
      | ol ys =>
        obtain ⟨q2, us, ev, n2, f2, l2, dq2⟩ := q1
        have ev : w = .ref q2 := ev
        subst ev
        have : q2 ≠ q := fun w => (List.nodup_cons.mp nd).1 (w ▸ hmem)
        exact ⟨q2, us, rfl, n2, f2, by rw [upd_ne this]; exact l2, dq2⟩
theorem StOk.setL (st : StOk K ca B F env σ H) {i : Nat} {me : Bool} {x f : Str} {fs : List (Str × FV)} {p q C dx : Addr} {vs : List (Str × V)} {xs xs' : List PyData} {ws ws' : List V} (e : env[i]? = some (some (.ob me x fs))) (z : σ[i]? = some (some (.ref p))) (hp : H p = some (.ins C dx vs))
    (lv : vs.lookup f = some (.ref q)) (lf : fs.lookup f = some (.ol xs)) (hq : H q = some (.lst ws)) (dq : DqA K F ws' xs') : StOk K ca B F (env.set i (some (.ob me x (putFV f (.ol xs') fs)))) σ (upd H q (.lst ws')) := by
  have ob := st.obAt e z
  obtain ⟨C', dx', vs', hc, hp', n0, f0, fo, nd⟩ := ob
  rw [hp] at hp'
  cases hp'
  have hm := lad_mem fo lv lf
  obtain ⟨nq, fq, _⟩ := fo.at hm
  have nqp : p ≠ q := fun w => by rw [← w, hp] at hq; cases hq
  obtain ⟨fo', el⟩ := FOk.list hq nq fq dq fo nd lv lf
  refine st.chg e z ⟨st.gr.write nq fq hq (fun _ z => by cases z), Same.refl _, fun a o nR h nt => ?_, fun a o nR h fa => fa, fun a hR => ?_⟩ (st.rg.tb.aside hq (fun ps z => by cases z)) ⟨C, dx, vs, hc, by rw [upd_ne nqp]; exact hp, n0, f0, fo', by rw [el]; exact nd⟩ fun q' hq' => ?_
  · rw [upd_ne (fun w => nR (.inr (by rw [w, fla_eq fs hp]; exact hm)))]
    exact h
  · rcases hR with rfl | hR
    · exact n0
    · rw [fla_eq fs hp] at hR
      exact (fo.at hR).1
  · rw [fla_eq _ (show (upd H q (.lst ws')) p = some (.ins C dx vs) by rw [upd_ne nqp]; exact hp), el] at hq'
    exact .inl (by rw [fla_eq fs hp]; exact hq')
end
/-- o.f.append(e) -/
def sFApp (cn : Str) (i : Nat) (f : Str) (fe : VEnv → Rs RV) : VEnv → Out := fun env => match env[i]? with
  | some (some (.ob me x fs)) => (match fs.lookup f with
    | some (.ol xs) => if x = cn ∧ xs.length ≤ 1000000 then (fe env).out env fun r => (rsO r.toD).out env fun d => .nx (env.set i (some (.ob me x (putFV f (.ol (xs ++ [d])) fs)))) else .no
    | _ => .no)
  | _ => .no
/-- o.f.pop() -/
def sFPop (cn : Str) (i : Nat) (f : Str) : VEnv → Out := fun env => match env[i]? with
  | some (some (.ob me x fs)) => (match fs.lookup f with
    | some (.ol xs) => if x = cn ∧ xs ≠ [] then .nx (env.set i (some (.ob me x (putFV f (.ol xs.dropLast) fs)))) else .no
    | _ => .no)
  | _ => .no
section
variable {ca : CA} {W : WX} {X : Cx} {a b e : Expr} {es : List Expr} {fa fb : VEnv → Rs RV} {pos : Pos}
theorem vs_fapp {cn f x : Str} {C : Addr} {p1 p2 p3 p4 : Pos} (i : Nat) (T : ClsT X.K cn C) (n : NoAttr X.K C f) (he : VE ca W X e fa)
    (hN : X.N[i]? = some x := by rfl) (hv : Vis X.env.scope x := by first | exact Or.inl rfl | exact Or.inr (Or.inl rfl) | exact Or.inr (Or.inr rfl)) (hd : (x == ("__debug__" : Str)) = false := by decide) (hcd : (x == ("__classdict__" : Str)) = false := by decide)
    (hb : attributeBase (.Name x p1) f X.env (eval (.Name x p1) X.env) = eval (.Name x p1) X.env := by rfl)
    (hbase : attributeBase (.Attribute (.Name x p1) f p4) "append" X.env (eval (.Attribute (.Name x p1) f p4) X.env) = eval (.Attribute (.Name x p1) f p4) X.env := by rfl)
    (hfew : ((backTo p3 (starEach (e :: []) X.env)).all (fun x => !x.1) && (backToKw p3 (keywordEach [] X.env)).all (fun x => x.1.isSome)
      && decide ((e :: []).length + ([] : List Keyword).length + (if ([] : List Keyword).isEmpty then 0 else 1) < 30)) = true := by rfl)
    (hline : (p2.endLine == p3.line) = true := by rfl) (hs : starEach (e :: []) X.env = (false, eval e X.env) :: starEach [] X.env := by rfl) (hplain : (backTo p3 (starEach [] X.env)).any (·.1) = false := by rfl)
    (hsw : swapsWith (.Call (.Attribute (.Attribute (.Name x p1) f p4) "append" p2) [e] [] p3) none pos.line X.env = pure false := by rfl) :
    VS ca W X (.Expr (.Call (.Attribute (.Attribute (.Name x p1) f p4) "append" p2) [e] [] p3) pos) (sFApp cn i f fa) := by
  obtain ⟨t, pe, se⟩ := he
  refine ⟨_, ps_expr (pe_bm PySem.F.plainAttrs_list PySem.F.slot_list_append PySem.F.type_list_append mt_append (pe_fld (pe_var hN hv hd hcd) hb) (pa_cons pe pa_nil hs) hbase hfew hline hs hplain) hsw, fun B F env σ H D st q => ?_⟩
  show ∃ u, σ[i]? = some (some u) ∧ (∃ a C dx fs v, u = .ref a ∧ H a = some (.ins C dx fs) ∧ Cls X.K C ∧ NoAttr X.K C f ∧ fs.lookup f = some v ∧ (tyV X.K "list" v H ∧ t σ H fun y H1 => rAppend v [y] H1 fun _ H2 => D.nx σ H2))
  unfold sFApp at q
  split at q
  · rename_i me y fs er
    split at q
    · rename_i xs lf
      obtain ⟨u, ev, p', rfl, ob⟩ := st.sl i _ er
      obtain ⟨C', dx, vs, hc, hp, n0, f0, fo, nd⟩ := ob
      split at q
      · rename_i hy
        obtain ⟨rfl, hz⟩ := hy
        have eC := cls_one hc T.nm
        subst eC
        obtain ⟨w, lv, a', ws, ea, nq, fq, hq, dq⟩ := fo.look lf
        subst ea
        refine ⟨_, ev, p', C', dx, vs, .ref a', rfl, hp, T.cl, n, lv, .inl ⟨rfl, ws, SqL.of hq⟩, ?_⟩
        refine outE se st q fun r F1 H1 v q1 g rv => ?_
        cases ed : r.toD with
        | none => rw [ed] at q1; exact q1.elim
        | some d =>
          rw [ed] at q1
          simp only [rsO_some, Rs.out_ok] at q1
          obtain ⟨F2, g2, s2, q2⟩ := frz g (Fz.of rv ed)
          have st2 := st.grow g2
          have dq2 : DqA X.K F2 (ws ++ [v]) (xs ++ [d]) := (DqA.mono g2.ff _ _ dq).append (.cons q2 .nil)
          refine ⟨a', ws, v, rfl, rfl, g2.hh _ _ hq, by rw [dq.length]; exact million hz, ?_⟩
          exact q1 F2 σ _ s2 (st2.setL er ev (g2.hh _ _ hp) lv lf (g2.hh _ _ hq) dq2)
      · exact q.elim
    · exact q.elim
  · exact q.elim
end
end VL

namespace VL
open PySem PySem.Spec PyProof.Rows L2

/-! ## defs that may change their first argument, an instance -/
inductive MR where
  | ok (x : Str) (fs : List (Str × FV)) (d : PyData)
  | ex (x : Str) (fs : List (Str × FV)) (c : Nat) (gs : List (Str × PyData))
  | no
def selfOf (env : VEnv) : Option (Str × List (Str × FV)) := match env[0]? with
  | some (some (RV.ob true x fs)) => some (x, fs)
  | _ => none
def Out.finM : Out → MR
  | .nx env => match selfOf env with
    | some o => .ok o.1 o.2 .none
    | none => .no
  | .rm (some o) d => .ok o.1 o.2 d
  | .ex c gs env => match selfOf env with
    | some o => .ex o.1 o.2 c gs
    | none => .no
  | _ => .no
def fnM (n : Nat) (body : VEnv → Out) : List RV → MR := fun rs => (body (rs.map some ++ List.replicate (n - rs.length) none)).finM
def PostMF (K : PySem.W.Frag) (ca : CA) (B : Base) (Q : VK) (E : XK) : MR → Prop
  | .ok x fs d => ∀ G H v, Grow B.F B.H G H → Dq K G v d → TabOk ca.T G H → ObOk K B.H G H B.me x fs → Q v H
  | .ex x fs c gs => ∀ G H cls dx, Grow B.F B.H G H → TabOk ca.T G H → ObOk K B.H G H B.me x fs → ExOk K ca G H cls dx c gs → E cls dx H
  | .no => False
def spM (K : PySem.W.Frag) (ca : CA) (n : Nat) (F : List RV → MR) : Sp := fun vs H Q E => vs.length = n ∧ ∃ (B : Base) (G : Hp) (rs : List RV), StOk K ca B G (rs.map some) (vs.map some) H ∧ PostMF K ca B Q E (F rs)
theorem pad_at {env : VEnv} {k j : Nat} {r : RV} (e : (env ++ List.replicate k none)[j]? = some (some r)) : j < env.length ∧ env[j]? = some (some r) := by
  by_cases h : j < env.length
  · rw [List.getElem?_append_left h] at e
    exact ⟨h, e⟩
  · rw [List.getElem?_append_right (by omega), List.getElem?_replicate] at e
    split at e <;> cases e
theorem StOk.pad {K : PySem.W.Frag} {ca : CA} {B : Base} {F H : Hp} {env : VEnv} {σ : L2.St} (st : StOk K ca B F env σ H) (k : Nat) : StOk K ca B F (env ++ List.replicate k none) (σ ++ List.replicate k none) H := by
  have sg : ∀ {j : Nat}, j < env.length → (σ ++ List.replicate k none)[j]? = σ[j]? := fun h => List.getElem?_append_left (by rw [← st.len]; exact h)
  refine ⟨st.gr, by simp [st.len], fun j r e => ?_, fun j r p e o s => ?_, fun i j r r' p ij e1 e2 o1 o2 s1 => ?_, ⟨st.rg.tb, fun a b p q me x fs r' e z hq e' o' => ?_, fun a b p p' q me me' x x' fs fs' ab e z e' z' hq => ?_, fun a p q x fs e z hq => ?_, fun a x fs e => ?_⟩⟩
  · obtain ⟨h, e⟩ := pad_at e
    obtain ⟨v, e1, q⟩ := st.sl j r e
    exact ⟨v, by rw [sg h]; exact e1, q⟩
  · obtain ⟨h, e⟩ := pad_at e
    rw [sg h] at s
    exact st.bo j r p e o s
  · obtain ⟨h1, e1⟩ := pad_at e1
    obtain ⟨h2, e2⟩ := pad_at e2
    rw [sg h1] at s1
    rw [sg h2]
    exact st.dis i j r r' p ij e1 e2 o1 o2 s1
  · obtain ⟨h1, e⟩ := pad_at e
    obtain ⟨h2, e'⟩ := pad_at e'
    rw [sg h1] at z
    rw [sg h2]
    exact st.rg.o1 a b p q me x fs r' e z hq e' o'
  · obtain ⟨h1, e⟩ := pad_at e
    obtain ⟨h2, e'⟩ := pad_at e'
    rw [sg h1] at z
    rw [sg h2] at z'
    exact st.rg.o2 a b p p' q me me' x x' fs fs' ab e z e' z' hq
  · obtain ⟨h1, e⟩ := pad_at e
    rw [sg h1] at z
    exact st.rg.o3 a p q x fs e z hq
  · obtain ⟨h1, e⟩ := pad_at e
    rw [sg h1]
    exact st.rg.me a x fs e
section
variable {ca : CA}
theorem fn_okM {P : Program} {w : World} {K : PySem.W.Frag} {mg : Str → Option Value} {base : Heap} {x qual : Str} {sd : Stmt} {fA : Addr} {fd : FuncData} {N ps : List Str} {k : Nat} {body : VEnv → Out} (F : Fun K x qual sd fA fd) (S : FnScope N ps (defScope sd))
    (hb : ∀ (cdv : Value) (A : Around) (outer : List PySem.Env) (s : Shared) (H : Hp) (E : XK), Room k (A.deeper (envOfC qual (defScope sd) s.heap.objs.size fA cdv)) → Takes (cxOf (L2.CX P w) P w K mg base N qual (defScope sd) fA cdv A outer s H E) (fun cls dx _ H' => E cls dx H') →
      PassesOwn (model P w) (A.deeper (envOfC qual (defScope sd) s.heap.objs.size fA cdv)) (envOfC qual (defScope sd) s.heap.objs.size fA cdv) (cxOf (L2.CX P w) P w K mg base N qual (defScope sd) fA cdv A outer s H E).xe →
      VSs ca (fun cls dx _ H' => E cls dx H') (cxOf (L2.CX P w) P w K mg base N qual (defScope sd) fA cdv A outer s H E) (defBody sd) body) : FnOk P w K mg base (L2.CX P w) (k + 1) fA fd ps (spM K ca ps.length (fnM N.length body)) := by
  refine F.okX S (fun vs H Q E h => h.1) (fun cdv A outer s H vs Q E hr h => ?_)
  obtain ⟨hl, B, G, rs, st, q⟩ := h
  have hrs : rs.length = vs.length := by have := st.len; simpa using this
  obtain ⟨t, p, sn⟩ := hb cdv A outer s H E hr (takes_of rfl rfl rfl rfl) (passes_of rfl)
  have st0 : StOk K ca B G (rs.map some ++ List.replicate (N.length - rs.length) none) (start N vs) H := by
    have := st.pad (N.length - rs.length)
    rw [hrs] at this ⊢
    exact this
  refine ⟨t, p, sn B G _ _ H _ st0 ?_⟩
  unfold fnM at q
  have at_ : ∀ {F' : Hp} {env : VEnv} {σ' : L2.St} {H' : Hp} {o : Str × List (Str × FV)}, StOk K ca B F' env σ' H' → selfOf env = some o → ObOk K B.H F' H' B.me o.1 o.2 := fun {F' env σ' H' o} st e => by
    unfold selfOf at e
    split at e
    · rename_i y fs e1
      cases e
      exact st.obAt e1 (st.rg.me 0 y fs e1)
    · cases e
  generalize hB : body (rs.map some ++ List.replicate (N.length - rs.length) none) = o at q ⊢
  cases o with
  | nx env =>
    cases es : selfOf env with
    | none => simp only [Out.finM, es] at q; exact q.elim
    | some o =>
      simp only [Out.finM, es] at q
      exact fun F' σ' H' s st => q F' H' .non st.gr .non st.rg.tb (at_ st es)
  | rt r => exact q.elim
  | rm o d =>
    cases o with
    | none => exact q.elim
    | some o => exact fun F' H' v g dq tb ob => q F' H' v g dq tb ob
  | ex c gs env =>
    cases es : selfOf env with
    | none => simp only [Out.finM, es] at q; exact q.elim
    | some o =>
      simp only [Out.finM, es] at q
      exact fun F' σ' H' cls dx s st x => q F' H' cls dx st.gr st.rg.tb (at_ st es) x
  | bk env => exact q.elim
  | ct env => exact q.elim
  | no => exact q.elim
end
/-! ## hiding a region -/
open Classical in
noncomputable def hide (H : Hp) (R : Addr → Prop) : Hp := fun a => if R a then none else H a
theorem hide_in {H : Hp} {R : Addr → Prop} {a : Addr} (h : R a) : hide H R a = none := by unfold hide; rw [if_pos h]
theorem hide_out {H : Hp} {R : Addr → Prop} {a : Addr} (h : ¬ R a) : hide H R a = H a := by unfold hide; rw [if_neg h]
theorem hide_sub (H : Hp) (R : Addr → Prop) : Same (hide H R) H := fun a o h => by
  by_cases z : R a
  · rw [hide_in z] at h; cases h
  · rw [hide_out z] at h; exact h
theorem hide_none {H : Hp} {R : Addr → Prop} {a : Addr} (h : hide H R a = none) : R a ∨ H a = none := by
  by_cases z : R a
  · exact .inl z
  · rw [hide_out z] at h; exact .inr h
section
variable {K : PySem.W.Frag} {ca : CA} {B : Base} {F H F1 H1 : Hp} {env : VEnv} {σ : L2.St}
abbrev regOf (H : Hp) (p : Addr) (fs : List (Str × FV)) : Addr → Prop := fun a => a = p ∨ a ∈ fla H p fs
/-- plain data or a borrowed list -/
def RV.pb : RV → Bool
  | .d _ => true
  | .bl _ => true
  | _ => false
/-- the state that a def sees at its start: an instance, then plain data and borrowed lists that are in the base -/
theorem stMB (gr : Grow B.F B.H F H) (tb : TabOk ca.T F H) {x : Str} {fs : List (Str × FV)} (ob : ObOk K B.H F H B.me x fs) {vs : List V} {rs : List RV} (pr : Paired (fun v r => RVok K B.H F H v r) vs rs) (hp : rs.all RV.pb = true) :
    (∀ (j : Nat) (r : RV) (a : Addr), rs[j]? = some r → r.isB = true → vs[j]? = some (.ref a) → ∃ o, B.H a = some o) → StOk K ca B F ((RV.ob true x fs :: rs).map some) ((V.ref B.me :: vs).map some) H := by
  intro hbo
  obtain ⟨C, dx, us, hi⟩ := ob.ins
  have lk : ∀ {j : Nat} {r : RV}, ((RV.ob true x fs :: rs).map some)[j]? = some (some r) → (j = 0 ∧ r = .ob true x fs) ∨ (∃ k, j = k + 1 ∧ rs[k]? = some r) := fun {j r} h => by
    cases j with
    | zero => simp at h; exact .inl ⟨rfl, h.symm⟩
    | succ k =>
      simp at h
      exact .inr ⟨k, rfl, h⟩
  have pbk : ∀ {k : Nat} {r : RV}, rs[k]? = some r → r.pb = true := fun {k r} h => List.all_eq_true.mp hp r (List.mem_of_getElem? h)
  have no : ∀ {j : Nat} {r : RV}, ((RV.ob true x fs :: rs).map some)[j]? = some (some r) → r.own = true → j = 0 ∧ r = .ob true x fs := fun {j r} h o => by
    rcases lk h with h | ⟨k, _, h⟩
    · exact h
    · have z := pbk h
      cases r with
      | d y => cases o
      | bl ys => cases o
      | _ => cases z
  have get : ∀ {vs : List V} {rs : List RV} {k : Nat} {r : RV}, Paired (fun v r => RVok K B.H F H v r) vs rs → rs[k]? = some r → ∃ v, vs[k]? = some v ∧ RVok K B.H F H v r := by
    intro vs rs k r h
    induction h generalizing k with
    | nil => intro e; simp at e
    | cons h1 h2 ih => intro e; cases k with
      | zero => simp at e; subst e; exact ⟨_, rfl, h1⟩
      | succ k => obtain ⟨v, q1, q2⟩ := ih (k := k) (by simpa using e); exact ⟨v, by simpa using q1, q2⟩
  refine ⟨gr, by simp [Paired.length pr], fun j r h => ?_, fun j r a h o s => ?_, fun j k r r' a jk h1 h2 o1 o2 s1 => ?_,
    ⟨tb, fun a b p1 q me1 y gs r h1 s1 hq h2 o2 s2 => ?_, fun a b p1 p2 q me1 me2 y y' gs gs' ab h1 s1 h2 s2 hq => ?_, fun a p1 q y gs h1 s1 hq => ?_, fun a y gs h1 => ?_⟩⟩
  · rcases lk h with ⟨rfl, rfl⟩ | ⟨k, rfl, hd⟩
    · exact ⟨.ref B.me, rfl, B.me, rfl, ob⟩
    · obtain ⟨v, hv, q⟩ := get pr hd
      exact ⟨v, by simp [hv], q⟩
  · rcases lk h with ⟨rfl, rfl⟩ | ⟨k, rfl, hd⟩
    · cases o
    · exact hbo k r a hd o (by simpa using s)
  · exact (jk ((no h1 o1).1.trans (no h2 o2).1.symm)).elim
  · obtain ⟨rfl, e1⟩ := no h1 rfl
    cases e1
    obtain ⟨rfl, _⟩ := no h2 o2
    have s1 : some (some (V.ref B.me)) = some (some (.ref p1)) := s1
    have s2 : some (some (V.ref B.me)) = some (some (.ref q)) := s2
    cases s1
    injection s2 with s2
    injection s2 with s2
    injection s2 with s2
    obtain ⟨_, _, ws, hl⟩ := ob.at hq
    rw [← s2, hi] at hl; cases hl
  · exact (ab ((no h1 rfl).1.trans (no h2 rfl).1.symm)).elim
  · rcases lk h1 with ⟨_, e1⟩ | ⟨k, _, hd⟩
    · cases e1
    · have := pbk hd
      cases this
  · obtain ⟨rfl, _⟩ := no h1 rfl
    rfl
theorem dq_pr {K : PySem.W.Frag} {H0 F H : Hp} : ∀ {vs : List V} {ds : List PyData}, DqA K F vs ds → Paired (fun v r => RVok K H0 F H v r) vs (ds.map RV.d)
  | _, _, .nil => .nil
  | _, _, .cons h1 h2 => .cons h1 (dq_pr h2)
/-- the state that a def sees at its start: an instance, then plain data -/
theorem stM (gr : Grow B.F B.H F H) (tb : TabOk ca.T F H) {x : Str} {fs : List (Str × FV)} (ob : ObOk K B.H F H B.me x fs) {vs : List V} {ds : List PyData} (dq : DqA K F vs ds) :
    StOk K ca B F ((RV.ob true x fs :: ds.map RV.d).map some) ((V.ref B.me :: vs).map some) H := by
  have hd : ∀ {j : Nat} {r : RV}, (ds.map RV.d)[j]? = some r → ∃ d, r = .d d := fun {j r} h => by
    rw [List.getElem?_map] at h
    obtain ⟨d, _, e⟩ := Option.map_eq_some_iff.mp h
    exact ⟨d, e.symm⟩
  refine stMB gr tb ob (dq_pr dq) (List.all_eq_true.mpr fun r hr => ?_) fun j r a h o _ => ?_
  · obtain ⟨d, _, rfl⟩ := List.mem_map.mp hr
    rfl
  · obtain ⟨d, rfl⟩ := hd h
    cases o
/-- the state that a callee sees: the slot's instance, then plain data -/
theorem StOk.callM (st : StOk K ca B F env σ H) {i : Nat} {me : Bool} {x : Str} {fs : List (Str × FV)} {p : Addr} (e : env[i]? = some (some (.ob me x fs))) (z : σ[i]? = some (some (.ref p))) {vs : List V} {ds : List PyData} (dq : DqA K F vs ds) :
    StOk K ca { F := F, H := hide H (regOf H p fs), me := p } F ((RV.ob true x fs :: ds.map RV.d).map some) ((V.ref p :: vs).map some) H := by
  have ob := st.obAt e z
  exact stM (B := { F := F, H := hide H (regOf H p fs), me := p }) ⟨st.cfg, Same.refl _, (hide_sub H _).n, fun _ _ h => .inl h⟩ st.rg.tb (ob.to (Same.refl _) (hide_in (.inl rfl)) (by obtain ⟨_, _, _, _, _, _, f0, _⟩ := ob; exact f0) rfl fun q hq ws n f l => ⟨hide_in (.inr hq), f, l⟩) dq
/-- behind the call -/
theorem StOk.backM (st : StOk K ca B F env σ H) {i : Nat} {me : Bool} {x x' : Str} {fs fs' : List (Str × FV)} {p : Addr} {G' H' : Hp} (e : env[i]? = some (some (.ob me x fs))) (z : σ[i]? = some (some (.ref p)))
    (g : Grow F (hide H (regOf H p fs)) G' H') (tb : TabOk ca.T G' H') (ob' : ObOk K (hide H (regOf H p fs)) G' H' p x' fs') : StOk K ca B G' (env.set i (some (.ob me x' fs'))) σ H' := by
  have ob := st.obAt e z
  have base : ∀ a, regOf H p fs a → B.H a = none := fun a hR => by
    rcases hR with rfl | hR
    · obtain ⟨_, _, _, _, _, n0, _⟩ := ob; exact n0
    · exact (ob.at hR).1
  have nb : ∀ {a : Addr}, hide H (regOf H p fs) a = none → B.H a = none := fun h => by
    rcases hide_none h with h | h
    · exact base _ h
    · exact none_n st.gr.hh h
  have nR : ∀ {a : Addr} {o : HO}, B.H a = some o → ¬ regOf H p fs a := fun h hR => by rw [base _ hR] at h; cases h
  refine st.chg e z ⟨⟨g.cfg, st.gr.ff.trans g.ff, ⟨fun a o h nt => ?_, fun a ps h => ?_⟩, fun a o h => ?_⟩, g.ff, fun a o h1 h nt => g.hh.st a o (by rw [hide_out h1]; exact h) nt, fun a o h1 h f => ?_, base⟩ tb ?_ fun q hq => ?_
  · exact g.hh.st a o (by rw [hide_out (nR h)]; exact st.gr.hh.st a o h nt) nt
  · obtain ⟨ps1, h1, t1⟩ := st.gr.hh.tb a ps h
    obtain ⟨ps2, h2, t2⟩ := g.hh.tb a ps1 (by rw [hide_out (nR h)]; exact h1)
    exact ⟨ps2, h2, fun t => t2 (t1 t)⟩
  · rcases g.nw a o h with h | h
    · exact st.gr.nw a o h
    · exact .inr (nb h)
  · cases q : G' a with
    | none => rfl
    | some u =>
      rcases g.nw a u q with w | w
      · rw [f] at w; cases w
      · rw [hide_out h1, h] at w; cases w
  · obtain ⟨C, dx, vs, c, h1, n0, f0, fo, nd⟩ := ob'
    exact ⟨C, dx, vs, c, h1, nb n0, f0, fo.to (Same.refl _) fun q hq ws n f l => ⟨nb n, f, l⟩, nd⟩
  · have h1 := ob'.at hq
    obtain ⟨n, _, ws, hl⟩ := h1
    rcases hide_none n with (rfl | hR) | hN
    · obtain ⟨C, dx, vs, hi⟩ := ob'.ins
      rw [hi] at hl; cases hl
    · exact .inl hR
    · exact .inr hN
end

/-! ## expressions that may change a slot's instance -/
inductive MO (α : Type) where
  | ok (a : α) (env : VEnv)
  | ex (c : Nat) (gs : List (Str × PyData)) (env : VEnv)
  | no
def PostM (K : PySem.W.Frag) (ca : CA) (W : WX) (B : Base) (σ : L2.St) (F : Hp) (Q : VK) : MO PyData → Prop
  | .ok d env => ∀ F' H' v, Same F F' → StOk K ca B F' env σ H' → Dq K F' v d → Q v H'
  | .ex c gs env => ∀ F' H' cls dx, Same F F' → StOk K ca B F' env σ H' → ExOk K ca F' H' cls dx c gs → W cls dx σ H'
  | .no => False
def PostMT (K : PySem.W.Frag) (ca : CA) (W : WX) (B : Base) (σ : L2.St) (F : Hp) (Q : Bool → Hp → Prop) : MO Bool → Prop
  | .ok b env => ∀ F' H', Same F F' → StOk K ca B F' env σ H' → Q b H'
  | .ex c gs env => ∀ F' H' cls dx, Same F F' → StOk K ca B F' env σ H' → ExOk K ca F' H' cls dx c gs → W cls dx σ H'
  | .no => False
def SndM (K : PySem.W.Frag) (ca : CA) (W : WX) (t : TE) (f : VEnv → MO PyData) : Prop := ∀ B F env σ H Q, StOk K ca B F env σ H → PostM K ca W B σ F Q (f env) → t σ H Q
def SndMT (K : PySem.W.Frag) (ca : CA) (W : WX) (t : TT) (f : VEnv → MO Bool) : Prop := ∀ B F env σ H Q, StOk K ca B F env σ H → PostMT K ca W B σ F Q (f env) → t σ H Q
structure VM (ca : CA) (W : WX) (X : Cx) (e : Expr) (f : VEnv → MO PyData) : Prop where
  ex : ∃ t, PE X e t ∧ SndM X.K ca W t f
structure VMT (ca : CA) (W : WX) (X : Cx) (e : Expr) (f : VEnv → MO Bool) : Prop where
  ex : ∃ t, PT X e t ∧ SndMT X.K ca W t f
def MO.out {α : Type} (m : MO α) (k : α → VEnv → Out) : Out := match m with
  | .ok a env => k a env
  | .ex c gs env => .ex c gs env
  | .no => .no
@[simp] theorem MO.out_ok {α : Type} (a : α) (env) (k : α → VEnv → Out) : (MO.ok a env).out k = k a env := rfl
@[simp] theorem MO.out_ex {α : Type} (c gs env) (k : α → VEnv → Out) : (MO.ex c gs env : MO α).out k = .ex c gs env := rfl
def MO.bind {α β : Type} (m : MO α) (k : α → VEnv → MO β) : MO β := match m with
  | .ok a env => k a env
  | .ex c gs env => .ex c gs env
  | .no => .no
@[simp] theorem MO.bind_ok {α β : Type} (a : α) (env) (k : α → VEnv → MO β) : (MO.ok a env).bind k = k a env := rfl
def Rs.mo {α β : Type} (m : Rs α) (env : VEnv) (k : α → MO β) : MO β := match m with
  | .ok a => k a
  | .ex c gs => .ex c gs env
  | .no => .no
@[simp] theorem Rs.mo_ok {α β : Type} (a : α) (env) (k : α → MO β) : (Rs.ok a).mo env k = k a := rfl
theorem PostM.mono {K : PySem.W.Frag} {ca : CA} {W : WX} {B : Base} {σ : L2.St} {F F1 : Hp} {Q : VK} {m : MO PyData} (e : Same F F1) (h : PostM K ca W B σ F Q m) : PostM K ca W B σ F1 Q m := by
  cases m with
  | ok d env => exact fun F' H' v s st q => h F' H' v (e.trans s) st q
  | ex c gs env => exact fun F' H' cls dx s st q => h F' H' cls dx (e.trans s) st q
  | no => exact h
theorem PostMT.mono {K : PySem.W.Frag} {ca : CA} {W : WX} {B : Base} {σ : L2.St} {F F1 : Hp} {Q : Bool → Hp → Prop} {m : MO Bool} (e : Same F F1) (h : PostMT K ca W B σ F Q m) : PostMT K ca W B σ F1 Q m := by
  cases m with
  | ok d env => exact fun F' H' s st => h F' H' (e.trans s) st
  | ex c gs env => exact fun F' H' cls dx s st q => h F' H' cls dx (e.trans s) st q
  | no => exact h
def RV.isD : RV → Bool
  | .d _ => true
  | _ => false
/-- calls with an instance first -/
def mCall (i : Nat) (F : List RV → MR) (rs : List RV) (env : VEnv) : MO PyData := match env[i]? with
  | some (some (RV.ob me x fs)) => if (rs.map RV.arg).all RV.isD = true then (match F (.ob true x fs :: rs.map RV.arg) with
      | .ok x' fs' d => .ok d (env.set i (some (.ob me x' fs')))
      | .ex x' fs' c gs => .ex c gs (env.set i (some (.ob me x' fs')))
      | .no => .no) else .no
  | _ => .no
def cM (cn : Str) (i : Nat) (m : Str) (F : List RV → MR) (fa : VEnv → Rs (List RV)) : VEnv → MO PyData := fun env => match env[i]? with
  | some (some (RV.ob _ x fs)) => if x = cn ∧ fs.lookup m = none then (fa env).mo env fun rs => mCall i F rs env else .no
  | _ => .no
def cMF (i : Nat) (F : List RV → MR) (fa : VEnv → Rs (List RV)) : VEnv → MO PyData := fun env => match env[i]? with
  | some (some (RV.ob _ _ _)) => (fa env).mo env fun rs => mCall i F rs env
  | _ => .no
theorem plain_dq {K : PySem.W.Frag} {H0 F H : Hp} : ∀ {vs : List V} {rs : List RV}, rs.all RV.isD = true → Paired (fun v r => RVok K H0 F H v r) vs rs → ∃ ds, rs = ds.map RV.d ∧ DqA K F vs ds
  | _, _, _, .nil => ⟨[], rfl, .nil⟩
  | _, r :: _, n, .cons h1 h2 => by
    rw [List.all_cons, Bool.and_eq_true] at n
    obtain ⟨ds, e, q⟩ := plain_dq n.2 h2
    cases r with
    | d x => exact ⟨x :: ds, by rw [e]; rfl, .cons h1 q⟩
    | _ => cases n.1
section
variable {K : PySem.W.Frag} {ca : CA} {W : WX} {B : Base} {F H F1 H1 : Hp} {env : VEnv} {σ : L2.St}
/-- what the callee is told, and what comes back -/
theorem snd_callM {n : Nat} {Fm : List RV → MR} {i : Nat} {Q : VK} {rs : List RV} {vs : List V} {p : Addr} (st : StOk K ca B F env σ H) (g : Grow F H F1 H1) (pr : Paired (fun v r => RVok K H F1 H1 v r) vs rs) (z : σ[i]? = some (some (.ref p)))
    (hn : rs.length + 1 = n) (q : PostM K ca W B σ F Q (mCall i Fm rs env)) : spM K ca n Fm (.ref p :: vs) H1 Q (fun cls dx H' => W cls dx σ H') := by
  unfold mCall at q
  split at q
  · rename_i me x fs e
    split at q
    · rename_i hg
      obtain ⟨F2, g2, s2, q2⟩ := args_go g (Same.refl _) pr
      have st2 := st.grow g2
      obtain ⟨ds, ed, dq⟩ := plain_dq hg q2
      refine ⟨by rw [List.length_cons, Paired.length pr, hn], _, F2, RV.ob true x fs :: ds.map RV.d, st2.callM e z dq, ?_⟩
      rw [← ed]
      cases ef : Fm (.ob true x fs :: rs.map RV.arg) with
      | ok x' fs' d =>
        rw [ef] at q
        exact fun G' H' v gg dv tb ob => q G' H' v (g2.ff.trans gg.ff) (st2.backM e z gg tb ob) dv
      | ex x' fs' c gs =>
        rw [ef] at q
        exact fun G' H' cls dx gg tb ob xo => q G' H' cls dx (g2.ff.trans gg.ff) (st2.backM e z gg tb ob) xo
      | no => rw [ef] at q; exact q.elim
    · exact q.elim
  · exact q.elim
end
end VL

namespace VL
open PySem PySem.Spec PyProof.Rows L2

/-! ## o.m(..), what is raised wished for at the caller's slots -/
def tMethD (C : Addr) (m : Str) (sp : Sp) (E : L2.St → XK) (ta : TE) (t : TA) : TE := fun σ H Q => ta σ H fun x H1 => ∃ a dx fs, x = .ref a ∧ H1 a = some (.ins C dx fs) ∧ fs.lookup m = none ∧ t σ H1 fun vs H2 => sp (x :: vs) H2 Q (E σ)
section
variable {X : Cx} {CX : CXT} {k : Nat} {f C : Addr} {fd : FuncData} {ps : List Str} {sp : Sp} {E : L2.St → XK} {x m : Str} {p pos apos : Pos} {e o : Expr} {es : List Expr} {ta : TE} {t : TA}
theorem pe_methD {pl : Sem Bool} (he : PE X o ta) (c : Cls X.K C) (hm : Meth X.K C m f) (F : FnOk X.prog X.w X.K X.mg X.base CX k f fd ps sp) (hr : Room k X.A) (hb : Binds X.K fd ps []) (hx : ∀ σ, PassesAt CX X σ (E σ)) (ha : PA X (e :: es) t)
    (hst : starEach (e :: es) X.env = (false, eval e X.env) :: starEach es X.env := by rfl) (hpl : (backTo pos (starEach es X.env)).any (·.1) = false := by rfl)
    (ht : eval (.Call (.Attribute o m apos) (e :: es) [] pos) X.env = (do
      let ov ← eval o X.env
      standAt apos.atName
      let (f, first) ← holding [ov] (getMethod ov m pl)
      callWith pos f first (backTo pos (starEach (e :: es) X.env)) (backToKw pos (keywordEach [] X.env))) := by rfl) :
    PE X (.Call (.Attribute o m apos) (e :: es) [] pos) (tMethD C m sp E ta t) := by
  refine ⟨fun pins s σ H Q I h => ?_⟩
  refine PySem.W.methodCall_KW (pl := pl) (thn (he.run pins s σ H _ I h) fun u s1 ⟨x, H1, I1, rx, a, dx, fs, ex, ea, l, q⟩ => ?_) ht
  subst ex
  obtain rfl : u = Value.ref a := rx
  refine getmeth_ok I1 ea c hm l ?_
  refine PySem.W.callWith_K (first := [.ref a]) (h₀ := X.base) I.ok.mod.kin hm.kp (thn (ha.run pos pins s1 σ H1 _ I1 q) fun us s2 ⟨vs, H2, I2, r, q2⟩ => ⟨I2.kIn, ?_⟩) hst hpl
  exact run_fnSD (dvs := []) (ds := []) (us := .ref a :: us) (vs := .ref a :: vs) F hr hb .nil (hx σ) I2 (.cons rfl r) (by rw [List.append_nil]; exact q2)
theorem pe_methD0 {pl : Sem Bool} (he : PE X o ta) (c : Cls X.K C) (hm : Meth X.K C m f) (F : FnOk X.prog X.w X.K X.mg X.base CX k f fd ps sp) (hr : Room k X.A) (hb : Binds X.K fd ps []) (hx : ∀ σ, PassesAt CX X σ (E σ))
    (ht : eval (.Call (.Attribute o m apos) [] [] pos) X.env = (do
      let ov ← eval o X.env
      standAt apos.atName
      let (f, first) ← holding [ov] (getMethod ov m pl)
      callWith pos f first (backTo pos (starEach [] X.env)) (backToKw pos (keywordEach [] X.env))) := by rfl) :
    PE X (.Call (.Attribute o m apos) [] [] pos) (tMethD C m sp E ta tNil) := by
  refine ⟨fun pins s σ H Q I h => ?_⟩
  refine PySem.W.methodCall_KW (pl := pl) (thn (he.run pins s σ H _ I h) fun u s1 ⟨x, H1, I1, rx, a, dx, fs, ex, ea, l, q⟩ => ?_) ht
  subst ex
  obtain rfl : u = Value.ref a := rx
  refine getmeth_ok I1 ea c hm l ?_
  exact PySem.W.callWith_K0 (first := [.ref a]) I1.kIn hm.kp (run_fnSD (dvs := []) (ds := []) (us := [.ref a]) (vs := [.ref a]) F hr hb .nil (hx σ) I1 (.cons rfl .nil) q)
end
section
variable {K : PySem.W.Frag} {ca : CA} {W : WX} {B : Base} {F H F1 H1 : Hp} {env : VEnv} {σ : L2.St}
theorem exM {c : Nat} {gs : List (Str × PyData)} {Q : VK} (st : StOk K ca B F env σ H) (q : PostM K ca W B σ F Q (.ex c gs env)) : PostX K ca W σ F H c gs := fun F' H' cls dx g xo => q F' H' cls dx g.ff (st.grow g) xo
theorem exMT {c : Nat} {gs : List (Str × PyData)} {Q : Bool → Hp → Prop} (st : StOk K ca B F env σ H) (q : PostMT K ca W B σ F Q (.ex c gs env)) : PostX K ca W σ F H c gs := fun F' H' cls dx g xo => q F' H' cls dx g.ff (st.grow g) xo
end
section
variable {ca : CA} {W : WX} {X : Cx} {a b e : Expr} {es : List Expr} {fa fb : VEnv → Rs RV} {pos : Pos} {st : Stmt}
/-! ## calls that may change a slot's instance -/
theorem vm_meth {cn m x : Str} {C f : Addr} {fd : FuncData} {ps : List Str} {k n : Nat} {Fm : List RV → MR} {fv : VEnv → Rs (List RV)} {p apos : Pos} {pl : Sem Bool} (i : Nat) (T : ClsT X.K cn C) (hm : Meth X.K C m f) (Fo : FnOk X.prog X.w X.K X.mg X.base (L2.CX X.prog X.w) k f fd ps (spM X.K ca n Fm)) (hr : Room k X.A) (hb : Binds X.K fd ps []) (tk : Takes X W)
    (ha : VA ca W X (e :: es) fv) (hN : X.N[i]? = some x := by rfl) (hv : Vis X.env.scope x := by first | exact Or.inl rfl | exact Or.inr (Or.inl rfl) | exact Or.inr (Or.inr rfl)) (hd : (x == ("__debug__" : Str)) = false := by decide) (hcd : (x == ("__classdict__" : Str)) = false := by decide)
    (hst : starEach (e :: es) X.env = (false, eval e X.env) :: starEach es X.env := by rfl) (hpl : (backTo pos (starEach es X.env)).any (·.1) = false := by rfl)
    (ht : eval (.Call (.Attribute (.Name x p) m apos) (e :: es) [] pos) X.env = (do
      let ov ← eval (.Name x p) X.env
      standAt apos.atName
      let (f, first) ← holding [ov] (getMethod ov m pl)
      callWith pos f first (backTo pos (starEach (e :: es) X.env)) (backToKw pos (keywordEach [] X.env))) := by rfl) :
    VM ca W X (.Call (.Attribute (.Name x p) m apos) (e :: es) [] pos) (cM cn i m (fun rs => if rs.length = n then Fm rs else .no) fv) := by
  obtain ⟨t, pa, sa⟩ := ha
  refine ⟨_, pe_methD (pl := pl) (E := WE W) (pe_var hN hv hd hcd) T.cl hm Fo hr hb (fun σ => passAt tk σ) pa hst hpl ht, fun B F env σ H Q st q => ?_⟩
  show ∃ v, σ[i]? = some (some v) ∧ (∃ a dx fs, v = .ref a ∧ H a = some (.ins C dx fs) ∧ fs.lookup m = none ∧ t σ H fun vs H2 => spM X.K ca n Fm (v :: vs) H2 Q (WE W σ))
  unfold cM at q
  split at q
  · rename_i me y fs er
    split at q
    · rename_i hy
      obtain ⟨rfl, hl⟩ := hy
      obtain ⟨u, ev, p', rfl, ob⟩ := st.sl i _ er
      have obo := ob.bo
      obtain ⟨C', dx, vs, hc, hp, fb⟩ := obo
      have eC := cls_one hc T.nm
      subst eC
      refine ⟨_, ev, p', dx, vs, rfl, hp, fb.none hl, ?_⟩
      refine sa B F env σ H _ st ?_
      cases ex : fv env with
      | ok rs =>
        rw [ex] at q
        simp only [Rs.mo_ok] at q
        intro F1 H1 ws g pr
        by_cases hn : rs.length + 1 = n
        · refine snd_callM (F := F) st g pr ev hn ?_
          have : mCall i (fun rs => if rs.length = n then Fm rs else .no) rs env = mCall i Fm rs env := by
            unfold mCall
            rw [er]
            simp only [List.length_cons, List.length_map, hn, if_true]
          rw [this] at q
          exact q
        · exfalso
          unfold mCall at q
          rw [er] at q
          simp only [List.length_cons, List.length_map, if_neg hn] at q
          split at q <;> exact q
      | ex c gs => rw [ex] at q; exact exM st q
      | no => rw [ex] at q; exact q
    · exact q.elim
  · exact q.elim
theorem vm_meth0 {cn m x : Str} {C f : Addr} {fd : FuncData} {ps : List Str} {k : Nat} {Fm : List RV → MR} {p apos : Pos} {pl : Sem Bool} (i : Nat) (T : ClsT X.K cn C) (hm : Meth X.K C m f) (Fo : FnOk X.prog X.w X.K X.mg X.base (L2.CX X.prog X.w) k f fd ps (spM X.K ca 1 Fm)) (hr : Room k X.A) (hb : Binds X.K fd ps []) (tk : Takes X W)
    (hN : X.N[i]? = some x := by rfl) (hv : Vis X.env.scope x := by first | exact Or.inl rfl | exact Or.inr (Or.inl rfl) | exact Or.inr (Or.inr rfl)) (hd : (x == ("__debug__" : Str)) = false := by decide) (hcd : (x == ("__classdict__" : Str)) = false := by decide)
    (ht : eval (.Call (.Attribute (.Name x p) m apos) [] [] pos) X.env = (do
      let ov ← eval (.Name x p) X.env
      standAt apos.atName
      let (f, first) ← holding [ov] (getMethod ov m pl)
      callWith pos f first (backTo pos (starEach [] X.env)) (backToKw pos (keywordEach [] X.env))) := by rfl) :
    VM ca W X (.Call (.Attribute (.Name x p) m apos) [] [] pos) (cM cn i m Fm aN) := by
  refine ⟨_, pe_methD0 (pl := pl) (E := WE W) (pe_var hN hv hd hcd) T.cl hm Fo hr hb (fun σ => passAt tk σ) ht, fun B F env σ H Q st q => ?_⟩
  show ∃ v, σ[i]? = some (some v) ∧ (∃ a dx fs, v = .ref a ∧ H a = some (.ins C dx fs) ∧ fs.lookup m = none ∧ spM X.K ca 1 Fm [v] H Q (WE W σ))
  unfold cM at q
  split at q
  · rename_i me y fs er
    split at q
    · rename_i hy
      obtain ⟨rfl, hl⟩ := hy
      obtain ⟨u, ev, p', rfl, ob⟩ := st.sl i _ er
      have obo := ob.bo
      obtain ⟨C', dx, vs, hc, hp, fb⟩ := obo
      have eC := cls_one hc T.nm
      subst eC
      exact ⟨_, ev, p', dx, vs, rfl, hp, fb.none hl, snd_callM (F := F) st (Grow.refl st.cfg) .nil ev rfl q⟩
    · exact q.elim
  · exact q.elim
/-- f(o, ..), a def that may change its first argument -/
theorem vm_fn {x y : Str} {f : Addr} {fd : FuncData} {ps : List Str} {k n : Nat} {Fm : List RV → MR} {fv : VEnv → Rs (List RV)} {p p' : Pos} (i : Nat) (Fo : FnOk X.prog X.w X.K X.mg X.base (L2.CX X.prog X.w) k f fd ps (spM X.K ca n Fm)) (hr : Room k X.A) (hg : Gl X y) (hm : X.mg y = some (.ref f)) (hk : PySem.W.keepIn X.K (.ref f) = true) (hb : Binds X.K fd ps []) (tk : Takes X W)
    (ha : VA ca W X es fv) (hN : X.N[i]? = some x := by rfl) (hv : Vis X.env.scope x := by first | exact Or.inl rfl | exact Or.inr (Or.inl rfl) | exact Or.inr (Or.inr rfl)) (hd : (x == ("__debug__" : Str)) = false := by decide) (hcd : (x == ("__classdict__" : Str)) = false := by decide)
    (hdb : (y == ("__debug__" : Str)) = false := by decide) (he : starEach (.Name x p :: es) X.env = (false, eval (.Name x p) X.env) :: starEach es X.env := by rfl) (hpl : (backTo pos (starEach es X.env)).any (·.1) = false := by rfl) :
    VM ca W X (.Call (.Name y p') (.Name x p :: es) [] pos) (cMF i (fun rs => if rs.length = n then Fm rs else .no) fv) := by
  obtain ⟨t, pa, sa⟩ := ha
  refine ⟨_, pe_callSD (E := WE W) Fo hr hg hm hk hb .nil (fun σ => passAt tk σ) (pa_cons (pe_var hN hv hd hcd) pa he) hdb he hpl, fun B F env σ H Q st q => ?_⟩
  show ∃ v, σ[i]? = some (some v) ∧ (t σ H fun vs H2 => spM X.K ca n Fm ((v :: vs) ++ []) H2 Q (WE W σ))
  unfold cMF at q
  split at q
  · rename_i me z fs er
    obtain ⟨u, ev, p', rfl, ob⟩ := st.sl i _ er
    refine ⟨_, ev, ?_⟩
    refine sa B F env σ H _ st ?_
    cases ex : fv env with
    | ok rs =>
      rw [ex] at q
      simp only [Rs.mo_ok] at q
      intro F1 H1 ws g pr
      rw [List.append_nil]
      by_cases hn : rs.length + 1 = n
      · refine snd_callM (F := F) st g pr ev hn ?_
        have : mCall i (fun rs => if rs.length = n then Fm rs else .no) rs env = mCall i Fm rs env := by
          unfold mCall
          rw [er]
          simp only [List.length_cons, List.length_map, hn, if_true]
        rw [this] at q
        exact q
      · exfalso
        unfold mCall at q
        rw [er] at q
        simp only [List.length_cons, List.length_map, if_neg hn] at q
        split at q <;> exact q
    | ex c gs => rw [ex] at q; exact exM st q
    | no => rw [ex] at q; exact q.elim
  · exact q.elim
/-! ## what a change may be followed by -/
def mPure (fe : VEnv → Rs RV) : VEnv → MO PyData := fun env => (fe env).mo env fun r => match r.toD with
  | some d => .ok d env
  | none => .no
theorem vm_pure (h : VE ca W X e fa) : VM ca W X e (mPure fa) := by
  obtain ⟨t, pe, se⟩ := h
  refine ⟨t, pe, fun B F env σ H Q st q => se B F env σ H Q st ?_⟩
  unfold mPure at q
  cases ex : fa env with
  | ok r =>
    rw [ex] at q
    simp only [Rs.mo_ok] at q
    intro F1 H1 v g rv
    cases ed : r.toD with
    | none => rw [ed] at q; exact q.elim
    | some d =>
      rw [ed] at q
      obtain ⟨F2, g2, s2, q2⟩ := frz g (Fz.of rv ed)
      exact q F2 H1 v g2.ff (st.grow g2) q2
  | ex c gs => rw [ex] at q; exact exM st q
  | no => rw [ex] at q; exact q
/-- the right side does not change anything -/
def m2 (g : RV → RV → Rs RV) (fm : VEnv → MO PyData) (fb : VEnv → Rs RV) : VEnv → MO PyData := fun env => (fm env).bind fun d env' => (fb env').mo env' fun y => (g (.d d) y).mo env' fun r => match r with
  | .d z => .ok z env'
  | _ => .no
theorem snd_m2 {K : PySem.W.Frag} {r : R2} {g : RV → RV → Rs RV} {ta tb : TE} {fm : VEnv → MO PyData} (hr : Op2S K ca r g) (sa : SndM K ca W ta fm) (sb : SndE K ca W tb fb) : SndM K ca W (tOp r ta tb) (m2 g fm fb) := by
  intro B F env σ H Q st q
  show ta σ H fun x H1 => tb σ H1 fun y H2 => r x y H2 Q
  refine sa B F env σ H _ st ?_
  unfold m2 at q
  cases em : fm env with
  | no => rw [em] at q; exact q
  | ex c gs env' => rw [em] at q; exact q
  | ok d env' =>
    rw [em] at q
    simp only [MO.bind_ok] at q
    intro F1 H1 v1 s1 st1 q1
    have q := PostM.mono s1 q
    refine sb B F1 env' σ H1 _ st1 ?_
    cases eb : fb env' with
    | no => rw [eb] at q; exact q
    | ex c gs => rw [eb] at q; exact exM st1 q
    | ok y =>
      rw [eb] at q
      simp only [Rs.mo_ok] at q
      intro F2 H2 v2 g2 q2
      refine hr W σ F1 H1 F2 H2 v1 v2 (.d d) y Q g2 (q1.mono g2.ff) q2 ?_
      cases eg : g (.d d) y with
      | no => rw [eg] at q; exact q
      | ex c gs => rw [eg] at q; exact exM st1 q
      | ok r =>
        rw [eg] at q
        simp only [Rs.mo_ok] at q
        intro F3 H3 v3 g3 q3
        cases r with
        | d z => exact q F3 H3 v3 g3.ff (st1.grow g3) q3
        | _ => exact q.elim
theorem vm_cmp {op : CmpOp} {r : R2} {g : RV → RV → Rs RV} {fm : VEnv → MO PyData} (ho : OpR X (compareOp op) r) (hr : Op2S X.K ca r g) (ha : VM ca W X a fm) (hb : VE ca W X b fb) (hm : behindInMarks op b = false) : VM ca W X (.Compare a [op] [b] pos) (m2 g fm fb) := by
  obtain ⟨ta, pa, sa⟩ := ha
  obtain ⟨tb, pb, sb⟩ := hb
  exact ⟨_, pe_cmpR ho pa pb hm, snd_m2 hr sa sb⟩
def mB (fm : VEnv → MO PyData) : VEnv → MO Bool := fun env => (fm env).bind fun d env' => match d with
  | .bool b => .ok b env'
  | _ => .no
theorem snd_mB {K : PySem.W.Frag} {t : TE} {fm : VEnv → MO PyData} (s : SndM K ca W t fm) : SndMT K ca W (tTest t) (mB fm) := by
  intro B F env σ H Q st q
  show t σ H fun x H' => ∃ k, x = .bl k ∧ Q k H'
  refine s B F env σ H _ st ?_
  unfold mB at q
  cases em : fm env with
  | no => rw [em] at q; exact q
  | ex c gs env' => rw [em] at q; exact q
  | ok d env' =>
    rw [em] at q
    simp only [MO.bind_ok] at q
    intro F1 H1 v1 s1 st1 q1
    cases d with
    | bool k => cases q1; exact ⟨k, rfl, q F1 H1 s1 st1⟩
    | _ => exact q.elim
theorem vmt_cmp {op : CmpOp} {r : R2} {g : RV → RV → Rs RV} {fm : VEnv → MO PyData} (ho : OpR X (compareOp op) r) (hr : Op2S X.K ca r g) (ha : VM ca W X a fm) (hb : VE ca W X b fb) (hm : behindInMarks op b = false) : VMT ca W X (.Compare a [op] [b] pos) (mB (m2 g fm fb)) := by
  obtain ⟨ta, pa, sa⟩ := ha
  obtain ⟨tb, pb, sb⟩ := hb
  exact ⟨_, pt_cmpR ho pa pb hm, snd_mB (snd_m2 hr sa sb)⟩
theorem vmt_val {fm : VEnv → MO PyData} (h : VM ca W X e fm) (he : ∀ whole, isTrue e X.env whole = (do let v ← whole; standAt e.pos; holding [v] (truthy v)) := by intro _; rfl) : VMT ca W X e (mB fm) := by
  obtain ⟨t, pe, se⟩ := h
  exact ⟨_, pt_val pe he, snd_mB se⟩
def mPT (f : VEnv → Rs Bool) : VEnv → MO Bool := fun env => (f env).mo env fun b => .ok b env
theorem snd_mPT {K : PySem.W.Frag} {t : TT} {f : VEnv → Rs Bool} (s : SndT K ca W t f) : SndMT K ca W t (mPT f) := by
  intro B F env σ H Q st q
  refine s B F env σ H Q st ?_
  unfold mPT at q
  cases ex : f env with
  | ok b => rw [ex] at q; exact fun F' H' g => q F' H' g.ff (st.grow g)
  | ex c gs => rw [ex] at q; exact exMT st q
  | no => rw [ex] at q; exact q
theorem vmt_pure {f : VEnv → Rs Bool} (h : VT ca W X e f) : VMT ca W X e (mPT f) := by
  obtain ⟨t, pe, se⟩ := h
  exact ⟨t, pe, snd_mPT se⟩
def mNot (f : VEnv → MO Bool) : VEnv → MO Bool := fun env => (f env).bind fun b env' => .ok (!b) env'
theorem vmt_not {f : VEnv → MO Bool} (h : VMT ca W X a f) : VMT ca W X (.UnaryOp .Not a pos) (mNot f) := by
  obtain ⟨t, pe, se⟩ := h
  refine ⟨_, pt_not pe, fun B F env σ H Q st q => ?_⟩
  show t σ H fun c H1 => Q (!c) H1
  refine se B F env σ H _ st ?_
  unfold mNot at q
  cases em : f env with
  | no => rw [em] at q; exact q
  | ex c gs env' => rw [em] at q; exact q
  | ok b env' => rw [em] at q; exact q
/-- a or b, the changes within a: b by its own words -/
structure VMW (ca : CA) (W : WX) (X : Cx) (e : Expr) (f : VEnv → MO Bool) : Prop where
  ex : ∃ t, PW X e t ∧ SndMT X.K ca W t f
theorem vmw_pure {f : VEnv → Rs Bool} (h : VW ca W X e f) : VMW ca W X e (mPT f) := by
  obtain ⟨t, pe, se⟩ := h
  exact ⟨t, pe, snd_mPT se⟩
theorem vmw_or1 {f : VEnv → MO Bool} (h : VMT ca W X a f) : VMW ca W X (.BoolOp .Or [a] pos) f := by
  obtain ⟨t, pe, se⟩ := h
  exact ⟨_, pw_or1 pe, se⟩
def mOr (f g : VEnv → MO Bool) : VEnv → MO Bool := fun env => (f env).bind fun b env' => if b = true then .ok true env' else g env'
theorem vmw_or {rest : List Expr} {f g : VEnv → MO Bool} (h : VMT ca W X a f) (h2 : VMW ca W X (.BoolOp .Or (b :: rest) pos) g) : VMW ca W X (.BoolOp .Or (a :: b :: rest) pos) (mOr f g) := by
  obtain ⟨t, pe, se⟩ := h
  obtain ⟨u, pu, su⟩ := h2
  refine ⟨_, pw_or pe pu, fun B F env σ H Q st q => ?_⟩
  show t σ H fun c H1 => if c = true then Q true H1 else u σ H1 Q
  refine se B F env σ H _ st ?_
  unfold mOr at q
  cases em : f env with
  | no => rw [em] at q; exact q
  | ex c gs env' => rw [em] at q; exact q
  | ok k env' =>
    rw [em] at q
    simp only [MO.bind_ok] at q
    intro F1 H1 s1 st1
    have q := PostMT.mono s1 q
    cases k with
    | true => rw [if_pos rfl]; rw [if_pos rfl] at q; exact q F1 H1 (Same.refl _) st1
    | false => rw [if_neg Bool.false_ne_true]; rw [if_neg Bool.false_ne_true] at q; exact su B F1 env' σ H1 Q st1 q
theorem vmw {f : VEnv → MO Bool} (h : VMW ca W X e f) : VMT ca W X e f := by
  obtain ⟨t, pe, se⟩ := h
  exact ⟨_, pe.pt, se⟩
/-! ## statements -/
theorem outM {K : PySem.W.Frag} {B : Base} {F H : Hp} {env : VEnv} {σ : L2.St} {t : TE} {f : VEnv → MO PyData} {Q : VK} {D : Ends} {k : PyData → VEnv → Out} (s : SndM K ca W t f) (st : StOk K ca B F env σ H)
    (post : PostS K ca W B F D ((f env).out k)) (h : ∀ d env' F1 H1 v, PostS K ca W B F1 D (k d env') → Same F F1 → StOk K ca B F1 env' σ H1 → Dq K F1 v d → Q v H1) : t σ H Q := by
  refine s B F env σ H Q st ?_
  cases e : f env with
  | ok d env' => rw [e] at post; exact fun F' H' v s1 st1 q => h d env' F' H' v (PostS.mono s1 post) s1 st1 q
  | ex c gs env' => rw [e] at post; exact fun F' H' cls dx s1 st1 xo => post F' σ H' cls dx s1 st1 xo
  | no => rw [e] at post; exact post
theorem outMT {K : PySem.W.Frag} {B : Base} {F H : Hp} {env : VEnv} {σ : L2.St} {t : TT} {f : VEnv → MO Bool} {Q : Bool → Hp → Prop} {D : Ends} {k : Bool → VEnv → Out} (s : SndMT K ca W t f) (st : StOk K ca B F env σ H)
    (post : PostS K ca W B F D ((f env).out k)) (h : ∀ d env' F1 H1, PostS K ca W B F1 D (k d env') → Same F F1 → StOk K ca B F1 env' σ H1 → Q d H1) : t σ H Q := by
  refine s B F env σ H Q st ?_
  cases e : f env with
  | ok d env' => rw [e] at post; exact fun F' H' s1 st1 => h d env' F' H' (PostS.mono s1 post) s1 st1
  | ex c gs env' => rw [e] at post; exact fun F' H' cls dx s1 st1 xo => post F' σ H' cls dx s1 st1 xo
  | no => rw [e] at post; exact post
def sDropM (fm : VEnv → MO PyData) : VEnv → Out := fun env => (fm env).out fun _ env' => .nx env'
theorem vs_exprM {fm : VEnv → MO PyData} (he : VM ca W X e fm) (hs : swapsWith e none pos.line X.env = pure false := by rfl) : VS ca W X (.Expr e pos) (sDropM fm) := by
  obtain ⟨t, pe, se⟩ := he
  refine ⟨_, ps_expr pe hs, fun B F env σ H D st p => ?_⟩
  show t σ H fun _ H1 => D.nx σ H1
  exact outM se st p fun d env' F1 H1 v p1 s1 st1 q => p1 F1 σ H1 (Same.refl _) st1
def sSetM (i : Nat) (fm : VEnv → MO PyData) : VEnv → Out := fun env => (fm env).out fun d env' => if i < env'.length then .nx (env'.set i (some (.d d))) else .no
theorem vs_setM {fm : VEnv → MO PyData} {i : Nat} {x : Str} {pos' : Pos} (hN : X.N.Nodup) (hi : X.N[i]? = some x) (hx : Loc X.env.scope x) (he : VM ca W X e fm) (hs : swapsWith e (some (.Name x pos')) pos.line X.env = pure false := by rfl) (hf : X.fn x = true ∨ X.env.scope.names.lookup x = some .local := by first | exact .inl rfl | exact .inr rfl | assumption) :
    VS ca W X (.Assign [.Name x pos'] e pos) (sSetM i fm) := by
  obtain ⟨t, pe, se⟩ := he
  refine ⟨_, ps_set hN hi hx pe hs hf, fun B F env σ H D st p => ?_⟩
  show t σ H fun x H1 => D.nx (σ.set i (some x)) H1
  refine outM se st p fun d env' F1 H1 v p1 s1 st1 q => ?_
  split at p1
  · rename_i hl
    exact p1 F1 _ H1 (Same.refl _) (st1.putD hl q)
  · exact p1.elim
def sIfM (c : VEnv → MO Bool) (f g : VEnv → Out) : VEnv → Out := fun env => (c env).out fun b env' => if b = true then f env' else g env'
theorem vs_ifM {c : Expr} {ss tt : List Stmt} {tc : VEnv → MO Bool} {f g : VEnv → Out} (hc : VMT ca W X c tc) (ha : VSs ca W X ss f) (hb : VSs ca W X tt g) : VS ca W X (.If c ss tt pos) (sIfM tc f g) := by
  obtain ⟨t, pe, se⟩ := hc
  obtain ⟨ta, pa, sa⟩ := ha
  obtain ⟨tb, pb, sb⟩ := hb
  refine ⟨_, ps_if pe pa pb, fun B F env σ H D st p => ?_⟩
  show t σ H fun b H1 => if b = true then ta D σ H1 else tb D σ H1
  refine outMT se st p fun b env' F1 H1 p1 s1 st1 => ?_
  cases b with
  | true => rw [if_pos rfl]; rw [if_pos rfl] at p1; exact sa B F1 env' σ H1 D st1 p1
  | false => rw [if_neg Bool.false_ne_true]; rw [if_neg Bool.false_ne_true] at p1; exact sb B F1 env' σ H1 D st1 p1
/-! ## returns of defs that may change self -/
def rmO (d : PyData) (env : VEnv) : Out := match selfOf env with
  | some o => .rm (some o) d
  | none => .no
theorem rm_ok {K : PySem.W.Frag} {B : Base} {F H : Hp} {env : VEnv} {σ : L2.St} {D : Ends} {d : PyData} {v : V} (st : StOk K ca B F env σ H) (p : PostS K ca W B F D (rmO d env)) (q : Dq K F v d) : D.rt v H := by
  unfold rmO at p
  cases es : selfOf env with
  | none => rw [es] at p; exact p.elim
  | some o =>
    rw [es] at p
    refine p F H v st.gr q st.rg.tb ?_
    unfold selfOf at es
    split at es
    · rename_i y fs e1
      cases es
      exact st.obAt e1 (st.rg.me 0 y fs e1)
    · cases es
def sRetS (fe : VEnv → Rs RV) : VEnv → Out := fun env => (fe env).out env fun r => (rsO r.toD).out env fun d => rmO d env
theorem vs_retS (he : VE ca W X e fa) : VS ca W X (.Return (some e) pos) (sRetS fa) := by
  obtain ⟨t, pe, se⟩ := he
  refine ⟨_, ps_ret pe, fun B F env σ H D st p => ?_⟩
  refine outE (t := t) (Q := D.rt) se st p fun r F1 H1 v p1 g q => ?_
  cases ed : r.toD with
  | none => rw [ed] at p1; exact p1.elim
  | some d =>
    rw [ed] at p1
    simp only [rsO_some, Rs.out_ok] at p1
    obtain ⟨F2, g2, s2, q2⟩ := frz g (Fz.of q ed)
    exact rm_ok (st.grow g2) (PostS.mono s2 p1) q2
def sRetNS : VEnv → Out := fun env => rmO .none env
theorem vs_retNS : VS ca W X (.Return none pos) sRetNS := ⟨_, ps_retN, fun _ _ _ _ _ _ st p => rm_ok st p .non⟩
def sRetM (fm : VEnv → MO PyData) : VEnv → Out := fun env => (fm env).out fun d env' => rmO d env'
theorem vs_retM {fm : VEnv → MO PyData} (he : VM ca W X e fm) : VS ca W X (.Return (some e) pos) (sRetM fm) := by
  obtain ⟨t, pe, se⟩ := he
  refine ⟨_, ps_ret pe, fun B F env σ H D st p => ?_⟩
  exact outM (t := t) (Q := D.rt) se st p fun d env' F1 H1 v p1 s1 st1 q => rm_ok st1 p1 q
end
end VL

namespace VL
open PySem PySem.Spec PyProof.Rows L2

section
variable {ca : CA} {W : WX} {X : Cx} {a b e : Expr} {es : List Expr} {fa fb : VEnv → Rs RV} {pos : Pos} {st : Stmt}
/-! ## properties, and methods that change nothing -/
def okR : Rs RV → Rs RV
  | .ok r => .ok r
  | _ => .no
def cProp (cn : Str) (i : Nat) (G : List RV → Rs RV) : VEnv → Rs RV := fun env => match env[i]? with
  | some (some r) => (rsO (obOf r)).bind fun o => if o.1 = cn then okR (G [.bo o.1 o.2]) else .no
  | _ => .no
theorem ve_prop {cn f x : Str} {C pa g : Addr} {fd : FuncData} {ps : List Str} {k : Nat} {G : List RV → Rs RV} {p : Pos} (i : Nat) (T : ClsT X.K cn C) (hp : PropOf X.K C f pa g) (Fo : FnOk X.prog X.w X.K X.mg X.base (L2.CX X.prog X.w) k g fd ps (spV X.K ca 1 G)) (hr : Room (k + 1) X.A) (hbi : Binds X.K fd ps [])
    (hN : X.N[i]? = some x := by rfl) (hv : Vis X.env.scope x := by first | exact Or.inl rfl | exact Or.inr (Or.inl rfl) | exact Or.inr (Or.inr rfl)) (hd : (x == ("__debug__" : Str)) = false := by decide)
    (hcd : (x == ("__classdict__" : Str)) = false := by decide) (hb : attributeBase (.Name x p) f X.env (eval (.Name x p) X.env) = eval (.Name x p) X.env := by rfl) : VE ca W X (.Attribute (.Name x p) f pos) (cProp cn i G) := by
  refine ⟨_, pe_prop (dvs := []) (ds := []) (E := fun _ _ _ => False) (pe_var hN hv hd hcd) T.cl hp Fo hr hbi .nil (passes_call (X := X.nox) takes_no fun _ _ _ _ z => z.elim) hb, fun B F env σ H Q st q => ?_⟩
  unfold cProp at q
  split at q
  · rename_i r er
    obtain ⟨v, ev, h⟩ := st.sl i r er
    cases eo : obOf r with
    | none => rw [eo] at q; exact q.elim
    | some o =>
      obtain ⟨y, fs⟩ := o
      rw [eo] at q
      simp only [rsO_some, Rs.bind_ok] at q
      split at q
      · rename_i hy
        obtain ⟨p', rfl, bo⟩ := obOf_ok h eo
        have bo' := bo
        obtain ⟨C', dx, vs, hc, hpi, fk⟩ := bo'
        have eC := cls_one (hy ▸ hc) T.nm
        subst eC
        refine ⟨_, ev, p', dx, vs, rfl, hpi, rfl, F, [.bo y fs], st.cfg, st.rg.tb, .cons ⟨p', rfl, bo⟩ .nil, ?_⟩
        cases eg : G [.bo y fs] with
        | ok r => rw [eg] at q; exact fun G' H' v gg rr => q G' H' v gg rr
        | ex c gs => rw [eg] at q; exact q.elim
        | no => rw [eg] at q; exact q.elim
      · exact q.elim
  · exact q.elim
def cMP (cn : Str) (i : Nat) (m : Str) (G : List RV → Rs RV) (fv : VEnv → Rs (List RV)) : VEnv → Rs RV := fun env => match env[i]? with
  | some (some r) => (rsO (obOf r)).bind fun o => if o.1 = cn ∧ o.2.lookup m = none then (fv env).bind fun rs => G (.bo o.1 o.2 :: rs.map RV.arg) else .no
  | _ => .no
theorem ve_methP {cn m x : Str} {C f : Addr} {fd : FuncData} {ps : List Str} {k n : Nat} {G : List RV → Rs RV} {fv : VEnv → Rs (List RV)} {p apos : Pos} {pl : Sem Bool} (i : Nat) (T : ClsT X.K cn C) (hm : Meth X.K C m f) (Fo : FnOk X.prog X.w X.K X.mg X.base (L2.CX X.prog X.w) k f fd ps (spV X.K ca n G)) (hr : Room k X.A) (hb : Binds X.K fd ps []) (tk : Takes X W)
    (ha : VA ca W X (e :: es) fv) (hN : X.N[i]? = some x := by rfl) (hv : Vis X.env.scope x := by first | exact Or.inl rfl | exact Or.inr (Or.inl rfl) | exact Or.inr (Or.inr rfl)) (hd : (x == ("__debug__" : Str)) = false := by decide) (hcd : (x == ("__classdict__" : Str)) = false := by decide)
    (hst : starEach (e :: es) X.env = (false, eval e X.env) :: starEach es X.env := by rfl) (hpl : (backTo pos (starEach es X.env)).any (·.1) = false := by rfl)
    (ht : eval (.Call (.Attribute (.Name x p) m apos) (e :: es) [] pos) X.env = (do
      let ov ← eval (.Name x p) X.env
      standAt apos.atName
      let (f, first) ← holding [ov] (getMethod ov m pl)
      callWith pos f first (backTo pos (starEach (e :: es) X.env)) (backToKw pos (keywordEach [] X.env))) := by rfl) :
    VE ca W X (.Call (.Attribute (.Name x p) m apos) (e :: es) [] pos) (cMP cn i m (fun rs => if rs.length = n then G rs else .no) fv) := by
  obtain ⟨t, pa, sa⟩ := ha
  refine ⟨_, pe_methD (pl := pl) (E := WE W) (pe_var hN hv hd hcd) T.cl hm Fo hr hb (fun σ => passAt tk σ) pa hst hpl ht, fun B F env σ H Q st q => ?_⟩
  show ∃ v, σ[i]? = some (some v) ∧ (∃ a dx fs, v = .ref a ∧ H a = some (.ins C dx fs) ∧ fs.lookup m = none ∧ t σ H fun vs H2 => spV X.K ca n G (v :: vs) H2 Q (WE W σ))
  unfold cMP at q
  split at q
  · rename_i r er
    obtain ⟨v, ev, h⟩ := st.sl i r er
    cases eo : obOf r with
    | none => rw [eo] at q; exact q.elim
    | some o =>
      obtain ⟨y, fs⟩ := o
      rw [eo] at q
      simp only [rsO_some, Rs.bind_ok] at q
      split at q
      · rename_i hy
        obtain ⟨p', rfl, bo⟩ := obOf_ok h eo
        have bo' := bo
        obtain ⟨C', dx, vs, hc, hp, fk⟩ := bo'
        have eC := cls_one (hy.1 ▸ hc) T.nm
        subst eC
        refine ⟨_, ev, p', dx, vs, rfl, hp, fk.none hy.2, ?_⟩
        refine seqA (PostE X.K ca W σ F H Q) sa st q (fun _ _ h => h) (fun h => h) fun rs F1 H1 ws q1 g1 pr => ?_
        split at q1
        · rename_i hl
          obtain ⟨F2, g2, s2, q2⟩ := args_go g1 (Same.refl _) pr
          refine ⟨by rw [List.length_cons, Paired.length pr]; simpa using hl, F2, .bo y fs :: rs.map RV.arg, g2.cfg, st.rg.tb.grow g2, .cons ⟨p', rfl, bo.grow g2.ff g2.hh⟩ q2, ?_⟩
          cases eg : G (.bo y fs :: rs.map RV.arg) with
          | ok r => rw [eg] at q1; exact fun G' H' v gg rr => q1 G' H' v (g2.trans gg) (rr.older g2.hh)
          | ex c gs => rw [eg] at q1; exact fun G' H' cls dx gg x => q1 G' H' cls dx (g2.trans gg) x
          | no => rw [eg] at q1; exact q1
        · exact q1.elim
      · exact q.elim
  · exact q.elim
theorem ve_methP0 {cn m x : Str} {C f : Addr} {fd : FuncData} {ps : List Str} {k : Nat} {G : List RV → Rs RV} {p apos : Pos} {pl : Sem Bool} (i : Nat) (T : ClsT X.K cn C) (hm : Meth X.K C m f) (Fo : FnOk X.prog X.w X.K X.mg X.base (L2.CX X.prog X.w) k f fd ps (spV X.K ca 1 G)) (hr : Room k X.A) (hb : Binds X.K fd ps []) (tk : Takes X W)
    (hN : X.N[i]? = some x := by rfl) (hv : Vis X.env.scope x := by first | exact Or.inl rfl | exact Or.inr (Or.inl rfl) | exact Or.inr (Or.inr rfl)) (hd : (x == ("__debug__" : Str)) = false := by decide) (hcd : (x == ("__classdict__" : Str)) = false := by decide)
    (ht : eval (.Call (.Attribute (.Name x p) m apos) [] [] pos) X.env = (do
      let ov ← eval (.Name x p) X.env
      standAt apos.atName
      let (f, first) ← holding [ov] (getMethod ov m pl)
      callWith pos f first (backTo pos (starEach [] X.env)) (backToKw pos (keywordEach [] X.env))) := by rfl) :
    VE ca W X (.Call (.Attribute (.Name x p) m apos) [] [] pos) (cMP cn i m G aN) := by
  refine ⟨_, pe_methD0 (pl := pl) (E := WE W) (pe_var hN hv hd hcd) T.cl hm Fo hr hb (fun σ => passAt tk σ) ht, fun B F env σ H Q st q => ?_⟩
  show ∃ v, σ[i]? = some (some v) ∧ (∃ a dx fs, v = .ref a ∧ H a = some (.ins C dx fs) ∧ fs.lookup m = none ∧ spV X.K ca 1 G [v] H Q (WE W σ))
  unfold cMP at q
  split at q
  · rename_i r er
    obtain ⟨v, ev, h⟩ := st.sl i r er
    cases eo : obOf r with
    | none => rw [eo] at q; exact q.elim
    | some o =>
      obtain ⟨y, fs⟩ := o
      rw [eo] at q
      simp only [rsO_some, Rs.bind_ok] at q
      split at q
      · rename_i hy
        obtain ⟨p', rfl, bo⟩ := obOf_ok h eo
        have bo' := bo
        obtain ⟨C', dx, vs, hc, hp, fk⟩ := bo'
        have eC := cls_one (hy.1 ▸ hc) T.nm
        subst eC
        refine ⟨_, ev, p', dx, vs, rfl, hp, fk.none hy.2, rfl, F, [.bo y fs], st.cfg, st.rg.tb, .cons ⟨p', rfl, bo⟩ .nil, ?_⟩
        have e1 : aN env = .ok [] := rfl
        rw [e1] at q
        simp only [Rs.bind_ok, List.map_nil] at q
        cases eg : G [.bo y fs] with
        | ok r => rw [eg] at q; exact fun G' H' v gg rr => q G' H' v gg rr
        | ex c gs => rw [eg] at q; exact fun G' H' cls dx gg x => q G' H' cls dx gg x
        | no => rw [eg] at q; exact q
      · exact q.elim
  · exact q.elim
/-! ## a new instance -/
def mkO (G : List RV → MR) (cn : Str) (rs : List RV) : Rs RV := if (rs.map RV.arg).all RV.pb = true then (match G (.ob true cn [] :: rs.map RV.arg) with
  | .ok x fs .none => .ok (.ob false x fs)
  | _ => .no) else .no
theorem ve_make {cn : Str} {C f : Addr} {fd : FuncData} {ps : List Str} {k n : Nat} {G : List RV → MR} {fv : VEnv → Rs (List RV)} {p : Pos} (M : Mk X.K C f) (hnm : ClsNm X.K cn C) (Fo : FnOk X.prog X.w X.K X.mg X.base (L2.CX X.prog X.w) k f fd ps (spM X.K ca n G)) (hr : Room (k + 1) X.A) (hg : Gl X cn) (hm : X.mg cn = some (.ref C)) (hb : Binds X.K fd ps []) (tk : Takes X W)
    (ha : VA ca W X (e :: es) fv) (hdb : (cn == ("__debug__" : Str)) = false := by decide) (he : starEach (e :: es) X.env = (false, eval e X.env) :: starEach es X.env := by rfl) (hpl : (backTo pos (starEach es X.env)).any (·.1) = false := by rfl) :
    VE ca W X (.Call (.Name cn p) (e :: es) [] pos) (cA (mkO (fun rs => if rs.length = n then G rs else .no) cn) fv) := by
  obtain ⟨t, pa, sa⟩ := ha
  refine ⟨_, pe_make (dvs := []) (ds := []) (E := fun _ _ _ => False) M Fo hr hg hm hb .nil (passes_call tk fun _ _ _ _ z => z.elim) pa hdb he hpl, fun B F env σ H Q st q => ?_⟩
  show t σ H fun vs H1 => ∀ x dx, H1 x = none → H1 dx = none → dx ≠ x → spM X.K ca n G (.ref x :: (vs ++ [])) (upd (upd H1 dx (.own x)) x (.ins C dx [])) (fun v H2 => v = .non ∧ Q (.ref x) H2) (fun _ _ _ => False)
  refine seqA (PostE X.K ca W σ F H Q) sa st q (fun _ _ h => h) (fun h => h) fun rs F1 H1 vs q1 g1 pr => ?_
  intro x dx nx ndx hne
  rw [List.append_nil]
  unfold mkO at q1
  split at q1
  · rename_i hp
    simp only [List.length_cons, List.length_map] at q1
    split at q1
    · rename_i x' fs' eG
      split at eG
      · rename_i hn
        obtain ⟨F2, g2, s2, q2⟩ := args_go g1 (Same.refl _) pr
        have nx' : (upd H1 dx (.own x)) x = none := by rw [upd_ne (Ne.symm hne)]; exact nx
        have g3 := Grow.newO g2.cfg (.own x) ndx (fun _ z => by cases z)
        have g4 := Grow.newO g3.cfg (.ins C dx []) nx' (fun _ z => by cases z)
        have hpb := List.all_eq_true.mp hp
        have q3 : Paired (fun v r => RVok X.K (upd H1 dx (.own x)) F2 (upd (upd H1 dx (.own x)) x (.ins C dx [])) v r) vs (rs.map RV.arg) := by
          have go : ∀ {vs : List V} {ss : List RV}, (∀ r ∈ ss, r.pb = true) → Paired (fun v r => RVok X.K H1 F2 H1 v r) vs ss → Paired (fun v r => RVok X.K (upd H1 dx (.own x)) F2 (upd (upd H1 dx (.own x)) x (.ins C dx [])) v r) vs ss := by
            intro vs ss hs h
            induction h with
            | nil => exact .nil
            | @cons v r vs ss h1 _ ih =>
              refine .cons ?_ (ih fun r hr => hs r (List.mem_cons_of_mem _ hr))
              have := hs r List.mem_cons_self
              cases r with
              | d y => exact h1
              | bl ys => obtain ⟨a, ws, ev, h2, q4⟩ := h1; exact ⟨a, ws, ev, (g3.trans g4).hh _ _ h2, q4⟩
              | _ => cases this
          exact go hpb q2
        refine ⟨by rw [List.length_cons, Paired.length pr, hn], { F := F2, H := upd H1 dx (.own x), me := x }, F2, RV.ob true cn [] :: rs.map RV.arg, stMB (B := { F := F2, H := upd H1 dx (.own x), me := x }) g4 (((st.rg.tb.grow g2).grow g3).grow g4) ⟨C, dx, [], hnm, upd_same, nx', same_none g2.cfg.sub nx, .nil, .nil⟩ q3 hp (fun j r a hj o hv => ?_), ?_⟩
        · have get : ∀ {vs : List V} {ss : List RV} {k : Nat} {r : RV}, Paired (fun v r => RVok X.K H1 F2 H1 v r) vs ss → ss[k]? = some r → ∃ v, vs[k]? = some v ∧ RVok X.K H1 F2 H1 v r := by
            intro vs ss k r h
            induction h generalizing k with
            | nil => intro e; simp at e
            | cons h1 h2 ih => intro e; cases k with
              | zero => simp at e; subst e; exact ⟨_, rfl, h1⟩
              | succ k => obtain ⟨v, q1, q2⟩ := ih (k := k) (by simpa using e); exact ⟨v, by simpa using q1, q2⟩
          obtain ⟨v, hv', rv⟩ := get q2 hj
          rw [hv] at hv'
          cases hv'
          have := hpb r (List.mem_of_getElem? hj)
          cases r with
          | d y => cases o
          | bl ys => obtain ⟨a', ws, ev, h2, q4⟩ := rv; cases ev; exact ⟨_, g3.hh _ _ h2⟩
          | _ => cases this
        rw [eG]
        intro G' H' v gg dv tb ob
        cases dv
        refine ⟨rfl, q1 G' H' _ ((g2.trans g3).trans gg) ⟨x, rfl, ?_⟩⟩
        obtain ⟨C', dx', us, c, h1, n0, f0, fo, nd⟩ := ob
        refine ⟨C', dx', us, c, h1, none_n g1.hh nx, f0, FOk.to (Same.refl _) fo fun q' _ ws n f l => ⟨?_, f, l⟩, nd⟩
        have n : (upd H1 dx (.own x)) q' = none := n
        have : q' ≠ dx := fun w => by rw [w, upd_same] at n; cases n
        rw [upd_ne this] at n
        exact none_n g1.hh n
      · cases eG
    · exact q1.elim
  · exact q1.elim
/-! ## e.append(x), e a new list that nobody keeps -/
def sAppT (fe fx : VEnv → Rs RV) : VEnv → Out := fun env => (fe env).out env fun r => match r with
  | .ol xs => (fx env).out env fun y => (rsO y.toD).out env fun _ => if xs.length ≤ 1000000 then .nx env else .no
  | _ => .no
theorem vs_appT {y : Expr} {p2 p3 : Pos} (he : VE ca W X e fa) (hy : VE ca W X y fb)
    (hbase : attributeBase e "append" X.env (eval e X.env) = eval e X.env := by rfl)
    (hfew : ((backTo p3 (starEach (y :: []) X.env)).all (fun x => !x.1) && (backToKw p3 (keywordEach [] X.env)).all (fun x => x.1.isSome)
      && decide ((y :: []).length + ([] : List Keyword).length + (if ([] : List Keyword).isEmpty then 0 else 1) < 30)) = true := by rfl)
    (hline : (p2.endLine == p3.line) = true := by rfl) (hs : starEach (y :: []) X.env = (false, eval y X.env) :: starEach [] X.env := by rfl) (hplain : (backTo p3 (starEach [] X.env)).any (·.1) = false := by rfl)
    (hsw : swapsWith (.Call (.Attribute e "append" p2) [y] [] p3) none pos.line X.env = pure false := by rfl) :
    VS ca W X (.Expr (.Call (.Attribute e "append" p2) [y] [] p3) pos) (sAppT fa fb) := by
  obtain ⟨t, pe, se⟩ := he
  obtain ⟨t2, pe2, se2⟩ := hy
  refine ⟨_, ps_expr (pe_bm PySem.F.plainAttrs_list PySem.F.slot_list_append PySem.F.type_list_append mt_append pe (pa_cons pe2 pa_nil hs) hbase hfew hline hs hplain) hsw, fun B F env σ H D st p => ?_⟩
  show t σ H fun v H1 => (tyV X.K "list" v H1 ∧ t2 σ H1 fun y H2 => rAppend v [y] H2 fun _ H3 => D.nx σ H3)
  unfold sAppT at p
  refine outE se st p fun r F1 H1 v p1 g1 q1 => ?_
  cases r with
  | ol xs =>
    obtain ⟨a, vs, rfl, n0, f0, hp, q⟩ := q1
    refine ⟨.inl ⟨rfl, vs, SqL.of hp⟩, ?_⟩
    refine outE se2 (st.grow g1) p1 fun r2 F2 H2 v2 p2 g2 q2 => ?_
    cases e2 : r2.toD with
    | none => rw [e2] at p2; exact p2.elim
    | some d =>
      rw [e2] at p2
      simp only [rsO_some, Rs.out_ok] at p2
      split at p2
      · rename_i hz
        have hp2 := g2.hh _ _ hp
        have f2 := g2.stillFree f0 hp
        refine ⟨a, vs, v2, rfl, rfl, hp2, by rw [q.length]; exact million hz, ?_⟩
        have stA := (st.grow (g1.trans g2)).away (acc' := vs ++ [v2]) (g1.trans g2).hh (st.aw0 n0) (none_n st.gr.hh n0) f2 hp2
        exact p2 F2 σ _ (Same.refl _) stA
      · exact p2.elim
  | _ => exact p1.elim
/-! ## for over a slot's list, a borrowed one, too -/
def sForB (g : Tg) (i : Nat) (f : VEnv → Out) : VEnv → Out := fun env => match env[i]? with
  | some (some (RV.bl xs)) => loopF g f xs env
  | some (some (RV.d (.list xs))) => loopF g f xs env
  | _ => .no
theorem vs_forB {tg : Expr} {body : List Stmt} {g : Tg} {f : VEnv → Out} {x : Str} {p : Pos} (i : Nat) (hp : PassesOwn (model X.prog X.w) X.A X.env X.xe) (hc : X.calm = true) (hg : VG X tg g) (hb : VSs ca W X body f)
    (hN : X.N[i]? = some x := by rfl) (hv : Vis X.env.scope x := by first | exact Or.inl rfl | exact Or.inr (Or.inl rfl) | exact Or.inr (Or.inr rfl)) (hd : (x == ("__debug__" : Str)) = false := by decide)
    (hcd : (x == ("__classdict__" : Str)) = false := by decide) (hs : ∀ y, foldedSetIterable (.Name x p) X.env y = pure y := by intro _; rfl) : VS ca W X (.For tg (.Name x p) body [] pos) (sForB g i f) := by
  obtain ⟨tb, pb, sb⟩ := hb
  refine ⟨_, ps_for hp hc (pi_list (pe_var hN hv hd hcd)) hg.ex pb hs, fun B F env σ H D st q => ?_⟩
  -- whichever list it is, its walk stands
  have go : ∀ (a : Addr) (vs : List V) (xs : List PyData) (G : Hp), σ[i]? = some (some (.ref a)) → SqL X.K H a vs → SqL X.K G a vs → DqA X.K F vs xs → (∀ {F2 : Hp} {env2 : VEnv} {σ2 : L2.St} {H2 : Hp}, StOk X.K ca B F2 env2 σ2 H2 → Same F F2 → SameN G H2) → PostS X.K ca W B F D (loopF g f xs env) →
      ∃ v, σ[i]? = some (some v) ∧ ∃ a, v = .ref a ∧ (∃ us, SqL X.K H a us) ∧ ∃ W' : Nat → Nat → L2.St → Hp → Prop, (∃ m, W' 0 m σ H) ∧ ∀ i m σ H, W' i m σ H →
        ((Itl X.K a).stop i H ∧ D.nx σ H) ∨ ((Itl X.K a).go i H ∧ ∃ N : L2.St → Hp → Prop, (∀ σ' H', N σ' H' → ∃ m', m' < m ∧ W' (i + 1) m' σ' H') ∧ ∀ x H', (Itl X.K a).yld i H x H' → (tgT X.K g) x σ H' fun σ2 H2 => tb { D with nx := N, ct := N, bk := D.nx } σ2 H2) := by
    intro a vs xs G ev hH hG d1 up p
    have jw := jw_list (K := X.K) hG
    refine ⟨_, ev, a, rfl, ⟨_, hH⟩, ?_⟩
    refine ⟨fun i m σ H => m = vs.length - i ∧ i ≤ vs.length ∧ ∃ F' env', Same F F' ∧ StOk X.K ca B F' env' σ H ∧ PostS X.K ca W B F' D (loopF g f (xs.drop i) env'), ⟨_, rfl, Nat.zero_le _, F, env, Same.refl _, st, p⟩, ?_⟩
    rintro i m σ2 H2 ⟨rfl, hi, F2, env2, s2, st2, p2⟩
    have s3 : SameN G H2 := up st2 s2
    by_cases hlt : i < vs.length
    · obtain ⟨x, hx, qx⟩ := DqA.get' d1 (List.getElem?_eq_getElem hlt)
      rw [drop_cons hx] at p2
      unfold loopF at p2
      refine .inr ⟨jw.go i H2 s3 hlt, fun σ' H' => ∃ F' env', Same F F' ∧ StOk X.K ca B F' env' σ' H' ∧ PostS X.K ca W B F' D (loopF g f (xs.drop (i + 1)) env'), fun σ' H' z => ⟨vs.length - (i + 1), by omega, rfl, hlt, z⟩, fun y H' hy => ?_⟩
      obtain ⟨rfl, e2⟩ := jw.yld i H2 y H' s3 hy hlt
      rw [List.getElem?_eq_getElem hlt] at e2
      cases e2
      cases e3 : tgE g x env2 with
      | none => rw [e3] at p2; exact p2.elim
      | some env3 =>
        rw [e3] at p2
        simp only at p2
        refine snd_tg st2 (qx.mono s2) e3 fun ws st3 => ?_
        refine sb B F2 env3 _ _ _ st3 ?_
        cases e4 : f env3 with
        | nx env' => rw [e4] at p2; exact fun F' σ' H' s st' => ⟨F', env', s2.trans s, st', PostS.mono s p2⟩
        | ct env' => rw [e4] at p2; exact fun F' σ' H' s st' => ⟨F', env', s2.trans s, st', PostS.mono s p2⟩
        | bk env' => rw [e4] at p2; exact p2
        | rt r => rw [e4] at p2; exact p2
        | rm o d => rw [e4] at p2; exact p2
        | ex c fs env' => rw [e4] at p2; exact p2
        | no => rw [e4] at p2; exact p2
    · have e5 : i = vs.length := by omega
      subst e5
      rw [List.drop_eq_nil_of_le (by rw [d1.length]; exact Nat.le_refl _)] at p2
      exact .inl ⟨jw.stop H2 s3, p2 F2 σ2 H2 (Same.refl _) st2⟩
  unfold sForB at q
  split at q
  · rename_i xs e
    obtain ⟨v, ev, a, vs, rfl, hp1, dq⟩ := st.sl i _ e
    obtain ⟨o, ho⟩ := st.bo i _ a e rfl ev
    have hB : B.H a = some (.lst vs) := by
      by_cases ht : ∃ ps, o = .tbl ps
      · obtain ⟨ps, rfl⟩ := ht
        obtain ⟨ps', h2, _⟩ := st.gr.hh.tb a ps ho
        rw [hp1] at h2; cases h2
      · have := st.gr.hh.st a o ho fun ps z => ht ⟨ps, z⟩
        rw [hp1] at this
        rw [ho, ← this]
    exact go a vs xs B.H ev (SqL.of hp1) (SqL.of hB) dq (fun st2 _ => st2.gr.hh) q
  · rename_i xs e
    obtain ⟨v, ev, h⟩ := st.sl i _ e
    cases h with
    | lst h1 h2 => exact go _ _ xs F ev (SqL.of (st.cfg.sub _ _ h1)) (SqL.of h1) h2 (fun st2 s2 => (s2.trans st2.cfg.sub).n) q
  · exact q.elim
end
theorem look_cons (f k : Str) (v : FV) (r : List (Str × FV)) : List.lookup f ((k, v) :: r) = if k = f then some v else List.lookup f r := by
  by_cases z : k = f
  · subst z; simp [List.lookup]
  · have z' : (f == k) = false := by simpa using fun w : f = k => z w.symm
    simp only [List.lookup, z', if_neg z]
theorem look_nil (f : Str) : List.lookup f ([] : List (Str × FV)) = none := rfl
theorem putFV_cons (f k : Str) (v x : FV) (r : List (Str × FV)) : putFV f v ((k, x) :: r) = if k = f then (k, v) :: r else (k, x) :: putFV f v r := rfl
theorem putFV_nil (f : Str) (v : FV) : putFV f v [] = [(f, v)] := rfl
/-- what the reckoning of instances unfolds -/
theorem e_fldS (cn : Str) (own : Bool) (i : Nat) (f : Str) (fe : VEnv → Rs RV) (env : VEnv) : sFldS cn own i f fe env = (fe env).out env fun r => match env[i]? with
  | some (some (.ob me x fs)) => if x = cn ∧ fs.length ≤ 900 then (rsO (fvOf own r)).out env fun fv => .nx (env.set i (some (.ob me x (putFV f fv fs)))) else .no
  | _ => .no := rfl
theorem e_fld (cn : Str) (i : Nat) (f : Str) (env : VEnv) : cFld cn i f env = match env[i]? with
  | some (some r) => (rsO (obOf r)).bind fun o => if o.1 = cn then (rsO (o.2.lookup f)).bind fun fv => .ok (fvR fv) else .no
  | _ => .no := rfl
theorem e_obO (me : Bool) (x : Str) (fs : List (Str × FV)) : obOf (.ob me x fs) = some (x, fs) := rfl
theorem e_obB (x : Str) (fs : List (Str × FV)) : obOf (.bo x fs) = some (x, fs) := rfl
theorem e_fvd (y : PyData) : fvR (.d y) = .d y := rfl
theorem e_fvl (ys : List PyData) : fvR (.ol ys) = .bl ys := rfl
theorem e_fvF (r : RV) : fvOf false r = r.toD.map .d := rfl
theorem e_toD (x : PyData) : RV.toD (.d x) = some x := rfl
theorem e_toL (x : List PyData) : RV.toD (.ol x) = some (.list x) := rfl
theorem e_retS (fe : VEnv → Rs RV) (env : VEnv) : sRetS fe env = (fe env).out env fun r => (rsO r.toD).out env fun d => rmO d env := rfl
theorem e_rmO (d : PyData) (x : Str) (fs : List (Str × FV)) (env : VEnv) : rmO d (some (.ob true x fs) :: env) = .rm (some (x, fs)) d := rfl
theorem e_finM (o : Str × List (Str × FV)) (d : PyData) : (Out.rm (some o) d).finM = .ok o.1 o.2 d := rfl
theorem e_finN (x : Str) (fs : List (Str × FV)) (env : VEnv) : (Out.nx (some (.ob true x fs) :: env)).finM = .ok x fs .none := rfl
theorem e_prop (cn : Str) (i : Nat) (G : List RV → Rs RV) (env : VEnv) : cProp cn i G env = match env[i]? with
  | some (some r) => (rsO (obOf r)).bind fun o => if o.1 = cn then okR (G [.bo o.1 o.2]) else .no
  | _ => .no := rfl
theorem e_okR (r : RV) : okR (.ok r) = .ok r := rfl
theorem e_M (cn : Str) (i : Nat) (m : Str) (F : List RV → MR) (fa : VEnv → Rs (List RV)) (env : VEnv) : cM cn i m F fa env = match env[i]? with
  | some (some (RV.ob _ x fs)) => if x = cn ∧ fs.lookup m = none then (fa env).mo env fun rs => mCall i F rs env else .no
  | _ => .no := rfl
theorem e_setM (i : Nat) (fm : VEnv → MO PyData) (env : VEnv) : sSetM i fm env = (fm env).out fun d env' => if i < env'.length then .nx (env'.set i (some (.d d))) else .no := rfl
theorem e_appT (fe fx : VEnv → Rs RV) (env : VEnv) : sAppT fe fx env = (fe env).out env fun r => match r with
  | .ol xs => (fx env).out env fun y => (rsO y.toD).out env fun _ => if xs.length ≤ 1000000 then .nx env else .no
  | _ => .no := rfl
theorem e_arO (me : Bool) (x : Str) (fs : List (Str × FV)) : RV.arg (.ob me x fs) = .bo x fs := rfl
theorem e_boO (me : Bool) (x : Str) (fs : List (Str × FV)) : RV.bor (.ob me x fs) = .bo x fs := rfl
theorem e_mCall (i : Nat) (F : List RV → MR) (rs : List RV) (env : VEnv) : mCall i F rs env = match env[i]? with
  | some (some (RV.ob me x fs)) => if (rs.map RV.arg).all RV.isD = true then (match F (.ob true x fs :: rs.map RV.arg) with
      | .ok x' fs' d => .ok d (env.set i (some (.ob me x' fs')))
      | .ex x' fs' c gs => .ex c gs (env.set i (some (.ob me x' fs')))
      | .no => .no) else .no
  | _ => .no := rfl
theorem e_MF (i : Nat) (F : List RV → MR) (fa : VEnv → Rs (List RV)) (env : VEnv) : cMF i F fa env = match env[i]? with
  | some (some (RV.ob _ _ _)) => (fa env).mo env fun rs => mCall i F rs env
  | _ => .no := rfl
theorem e_plainD (x : PyData) : RV.isD (.d x) = true := rfl
theorem e_pbD (x : PyData) : RV.pb (.d x) = true := rfl
theorem e_pbB (x : List PyData) : RV.pb (.bl x) = true := rfl
theorem e_mkO (G : List RV → MR) (cn : Str) (rs : List RV) : mkO G cn rs = if (rs.map RV.arg).all RV.pb = true then (match G (.ob true cn [] :: rs.map RV.arg) with
  | .ok x fs .none => .ok (.ob false x fs)
  | _ => .no) else .no := rfl
theorem e_MP (cn : Str) (i : Nat) (m : Str) (G : List RV → Rs RV) (fv : VEnv → Rs (List RV)) (env : VEnv) : cMP cn i m G fv env = match env[i]? with
  | some (some r) => (rsO (obOf r)).bind fun o => if o.1 = cn ∧ o.2.lookup m = none then (fv env).bind fun rs => G (.bo o.1 o.2 :: rs.map RV.arg) else .no
  | _ => .no := rfl
theorem e_fapp (cn : Str) (i : Nat) (f : Str) (fe : VEnv → Rs RV) (env : VEnv) : sFApp cn i f fe env = match env[i]? with
  | some (some (.ob me x fs)) => (match fs.lookup f with
    | some (.ol xs) => if x = cn ∧ xs.length ≤ 1000000 then (fe env).out env fun r => (rsO r.toD).out env fun d => .nx (env.set i (some (.ob me x (putFV f (.ol (xs ++ [d])) fs)))) else .no
    | _ => .no)
  | _ => .no := rfl
theorem e_fvO (xs : List PyData) : fvOf true (.ol xs) = some (.ol xs) := rfl
theorem e_dropM (fm : VEnv → MO PyData) (env : VEnv) : sDropM fm env = (fm env).out fun _ env' => .nx env' := rfl
theorem e_ifM (c : VEnv → MO Bool) (f g : VEnv → Out) (env : VEnv) : sIfM c f g env = (c env).out fun b env' => if b = true then f env' else g env' := rfl
theorem e_retM (fm : VEnv → MO PyData) (env : VEnv) : sRetM fm env = (fm env).out fun d env' => rmO d env' := rfl
theorem e_retNS (env : VEnv) : sRetNS env = rmO .none env := rfl
theorem e_m2 (g : RV → RV → Rs RV) (fm : VEnv → MO PyData) (fb : VEnv → Rs RV) (env : VEnv) : m2 g fm fb env = (fm env).bind fun d env' => (fb env').mo env' fun y => (g (.d d) y).mo env' fun r => match r with
  | .d z => .ok z env'
  | _ => .no := rfl
theorem e_mB (fm : VEnv → MO PyData) (env : VEnv) : mB fm env = (fm env).bind fun d env' => match d with
  | .bool b => .ok b env'
  | _ => .no := rfl
theorem e_mPT (f : VEnv → Rs Bool) (env : VEnv) : mPT f env = (f env).mo env fun b => .ok b env := rfl
theorem e_mNot (f : VEnv → MO Bool) (env : VEnv) : mNot f env = (f env).bind fun b env' => .ok (!b) env' := rfl
theorem e_mOr (f g : VEnv → MO Bool) (env : VEnv) : mOr f g env = (f env).bind fun b env' => if b = true then .ok true env' else g env' := rfl
theorem e_nbo (x : Str) (fs : List (Str × FV)) : RV.nb (.ob false x fs) = .ok (.ob false x fs) := rfl
end VL
namespace My
open PySem PySem.Spec PyProof.Rows L2 VL TL
def B_result_of : VEnv → Out :=
  (sSeq (sIf (cB (c2 gEq (cV 0) (cC (.str "+")))) (sRet (c2 gAdd (cV 1) (cV 2))) sNil)
    (sSeq (sIf (cB (c2 gEq (cV 0) (cC (.str "-")))) (sRet (c2 gSub (cV 1) (cV 2))) sNil)
    (sRet (c2 gMul (cV 1) (cV 2)))))
def F_result_of : List RV → Rs RV := fnD 3 B_result_of
def B_source_value : VEnv → Out :=
  (sSeq (sIf (cB (c2 gEq (c2 gIx (cV 0) (cC (.int 0))) (cC (.str "x")))) (sRet (c2 gIx (cV 1) (cA gInt (aC (cSl (cV 0) (oS (cC (.int 1))) oN) aN)))) sNil)
    (sSeq (sIf (cB (c2 gEq (c2 gIx (cV 0) (cC (.int 0))) (cC (.str "r")))) (sRet (c2 gIx (cV 2) (cA gInt (aC (cSl (cV 0) (oS (cC (.int 1))) oN) aN)))) sNil)
    (sRet (cA gInt (aC (cV 0) aN)))))
def F_source_value : List RV → Rs RV := fnD 3 B_source_value
def B_performed : VEnv → Out :=
  (sSeq (sUnp (.tp [4, 5, 6, 7, 8]) (cV 1))
    (sSeq (sSet 9 (cA (fun rs => if rs.length = 3 then F_result_of (rs.map RV.arg) else .no) (aC (cV 6) (aC (cA (fun rs => if rs.length = 3 then F_source_value (rs.map RV.arg) else .no) (aC (cV 7) (aC (cV 2) (aC (cV 3) aN)))) (aC (cA (fun rs => if rs.length = 3 then F_source_value (rs.map RV.arg) else .no) (aC (cV 8) (aC (cV 2) (aC (cV 3) aN)))) aN)))))
    (sSeq (sSet 10 (cA gListC (aC (cV 3) aN)))
    (sSeq (sIf (cB (c2 gEq (cV 5) (cC (.str "+")))) (sStore 10 (cV 4) (c2 gMod (c2 gAdd (c2 gIx (cV 10) (cV 4)) (cV 9)) (c2 gIx (cV 0) (cC (.int 0))))) (sStore 10 (cV 4) (c2 gMod (c2 gSub (c2 gIx (cV 10) (cV 4)) (cV 9)) (c2 gIx (cV 0) (cC (.int 0))))))
    (sRetV 10)))))
def F_performed : List RV → Rs RV := fnD 11 B_performed
def L0_traced : VEnv → Out :=
  (sApp 3 (cA (fun rs => if rs.length = 4 then F_performed (rs.map RV.arg) else .no) (aC (cV 0) (aC (cV 4) (aC (cV 2) (aC (c2 gIx (cV 3) (c1 gNeg (cC (.int 1)))) aN))))))
def B_traced : VEnv → Out :=
  (sSeq (sSet 3 (cA gList (aC (c2 gRep (cA gList (aC (cC (.int 0)) aN)) (cC (.int 8))) aN)))
    (sSeq (sForB (.nm 4) 1 L0_traced)
    (sRetV 3)))
def F_traced : List RV → Rs RV := fnD 5 B_traced
def B_Machine___init__ : VEnv → Out :=
  (sSeq (sFldS "Machine" false 0 "_program" (cV 1))
    (sSeq (sFldS "Machine" false 0 "_code" (cA gListC (aC (cV 2) aN)))
    (sSeq (sFldS "Machine" false 0 "_inputs" (cA gListC (aC (cV 3) aN)))
    (sSeq (sFldS "Machine" false 0 "_states" (cA (fun rs => if rs.length = 3 then F_traced (rs.map RV.arg) else .no) (aC (cV 1) (aC (cV 2) (aC (cV 3) aN)))))
    (sFldS "Machine" false 0 "_position" (cC (.int 0)))))))
def F_Machine___init__ : List RV → MR := fnM 4 B_Machine___init__
def B__law_cell : VEnv → Out :=
  (sSeq (sIf (cB (c2 gLt (cV 1) (cA gLen (aC (cV 0) aN)))) (sRet (c2 gIx (cV 0) (cV 1))) sNil)
    (sRet (cC (.int 0))))
def F__law_cell : List RV → Rs RV := fnD 2 B__law_cell
def L0__law_draw : VEnv → Out :=
  (sSeq (sApp 4 (c2 gMod (cV 3) (cV 5)))
    (sSet 3 (c2 gDiv (cV 3) (cV 5))))
def L1__law_draw : VEnv → Out :=
  (sSeq (sSet 6 (c2 gMod (c2 gAdd (c2 gAdd (c2 gMul (cV 6) (cC (.int 48271))) (cC (.int 11))) (cV 7)) (cC (.int 2147483647))))
    (sSeq (sSet 6 (c2 gMod (c2 gAdd (c2 gMul (cV 6) (cC (.int 69621))) (cC (.int 3))) (cC (.int 2147483647))))
    (sApp 4 (c2 gMod (c2 gDiv (cV 6) (cC (.int 7))) (c2 gIx (cV 2) (cV 7))))))
def B__law_draw : VEnv → Out :=
  (sSeq (sSet 3 (cA (fun rs => if rs.length = 2 then F__law_cell (rs.map RV.arg) else .no) (aC (cV 0) (aC (cV 1) aN))))
    (sSeq (sIf (cB (c2 gLt (cV 3) (cC (.int 0)))) (sSet 3 (c1 gNeg (cV 3))) sNil)
    (sSeq (sSet 4 (cA gList aN))
    (sSeq (sIf (cB (c2 gGe (cV 3) (c2 gPow (cC (.int 10)) (cC (.int 18))))) (sSeq (sSet 3 (c2 gSub (cV 3) (c2 gPow (cC (.int 10)) (cC (.int 18)))))
    (sSeq (sFor (.nm 5) (iL (cV 2)) L0__law_draw)
    (sRetV 4))) sNil)
    (sSeq (sSet 6 (c2 gMod (c2 gAdd (c2 gAdd (cV 3) (cC (.int 1))) (c2 gMul (cC (.int 31)) (cV 1))) (cC (.int 2147483647))))
    (sSeq (sFor (.nm 7) (iR gR1 (aC (cA gLen (aC (cV 2) aN)) aN)) L1__law_draw)
    (sRetV 4)))))))
def F__law_draw : List RV → Rs RV := fnD 8 B__law_draw
def B__law_operand : VEnv → Out :=
  (sSeq (sIf (cB (c2 gEq (cV 0) (cC (.int 0)))) (sRet (c2 gAdd (cC (.str "x")) (cA gStr (aC (c2 gMod (cV 1) (cV 3)) aN)))) sNil)
    (sSeq (sIf (bOr (cB (c2 gEq (cV 0) (cC (.int 1)))) (cB (c2 gEq (cV 4) (cC (.int 0))))) (sRet (cA gStr (aC (c2 gMod (cV 1) (cV 2)) aN))) sNil)
    (sRet (c2 gAdd (cC (.str "s")) (cA gStr (aC (c2 gSub (c2 gSub (cV 4) (cC (.int 1))) (c2 gMod (cV 1) (cV 4))) aN))))))
def F__law_operand : List RV → Rs RV := fnD 5 B__law_operand
def L0__law_program : VEnv → Out :=
  (sSeq (sSet 8 (cSl (cV 3) (oS (c2 gAdd (cC (.int 3)) (c2 gMul (cC (.int 5)) (cV 7)))) (oS (c2 gAdd (cC (.int 8)) (c2 gMul (cC (.int 5)) (cV 7))))))
    (sSeq (sFz 5 (sFz 4 (sSet 9 (cA (fun rs => if rs.length = 5 then F__law_operand (rs.map RV.arg) else .no) (aC (c2 gIx (cV 8) (cC (.int 1))) (aC (c2 gIx (cV 8) (cC (.int 2))) (aC (cV 4) (aC (cV 5) (aC (cA gLen (aC (cV 6) aN)) aN)))))))))
    (sSeq (sFz 5 (sFz 4 (sSet 10 (cA (fun rs => if rs.length = 5 then F__law_operand (rs.map RV.arg) else .no) (aC (c2 gIx (cV 8) (cC (.int 3))) (aC (c2 gIx (cV 8) (cC (.int 4))) (aC (cV 4) (aC (cV 5) (aC (cA gLen (aC (cV 6) aN)) aN)))))))))
    (sFz 10 (sFz 9 (sIf (cB (c2 gNotIn (cA gTupl (aC (c2 gIx (cC (.str "+-*")) (c2 gIx (cV 8) (cC (.int 0)))) (aC (cV 9) (aC (cV 10) aN)))) (cV 6))) (sFz 10 (sFz 9 (sApp 6 (cA gTupl (aC (c2 gIx (cC (.str "+-*")) (c2 gIx (cV 8) (cC (.int 0)))) (aC (cV 9) (aC (cV 10) aN))))))) sNil))))))
def B__law_program : VEnv → Out :=
  (sSeq (sSet 3 (cA (fun rs => if rs.length = 3 then F__law_draw (rs.map RV.arg) else .no) (aC (cV 0) (aC (cV 1) (aC (c2 gAdd (c2 gAdd (cA gList (aC (cC (.int 12)) (aC (cC (.int 2)) (aC (cV 2) aN)))) (c2 gRep (cA gList (aC (cC (.int 3)) (aC (cC (.int 4)) (aC (cC (.int 13)) (aC (cC (.int 4)) (aC (cC (.int 13)) aN)))))) (cC (.int 7)))) (c2 gRep (cA gList (aC (cC (.int 3)) aN)) (cC (.int 8)))) aN)))))
    (sSeq (sSet 4 (c2 gAdd (cC (.int 2)) (c2 gIx (cV 3) (cC (.int 0)))))
    (sSeq (sSet 5 (c2 gAdd (cC (.int 1)) (c2 gIx (cV 3) (cC (.int 1)))))
    (sSeq (sSet 6 (cA gList aN))
    (sSeq (sFor (.nm 7) (iR gR1 (aC (c2 gAdd (cC (.int 1)) (c2 gIx (cV 3) (cC (.int 2)))) aN)) L0__law_program)
    (sSeq (sSet 11 (cLc (iR gR1 (aC (cA gLen (aC (cV 6) aN)) aN)) [7] (.nm 7) (cB (c2 gEq (c2 gIx (cV 3) (c2 gAdd (cC (.int 38)) (cV 7))) (cC (.int 0)))) (cV 7)))
    (sSeq (sIf (cB (c2 gNotIn (c2 gSub (cA gLen (aC (cV 6) aN)) (cC (.int 1))) (cV 11))) (sApp 11 (c2 gSub (cA gLen (aC (cV 6) aN)) (cC (.int 1)))) sNil)
    (sFz 5 (sFz 4 (sRet (cA gTupl (aC (cV 4) (aC (cV 5) (aC (cA gTupleC (aC (cV 6) aN)) (aC (cA gTupleC (aC (cV 11) aN)) aN)))))))))))))))
def F__law_program : List RV → Rs RV := fnD 12 B__law_program
def L0__law_random : VEnv → Out :=
  (sSeq (sSet 11 (c2 gAdd (cC (.str "r")) (cA gStr (aC (c2 gMod (c2 gAdd (c2 gAdd (c2 gIx (cV 7) (cC (.int 0))) (cC (.int 1))) (c2 gMod (cV 10) (cC (.int 7)))) (cC (.int 8))) aN))))
    (sSeq (sIf (cB (c2 gEq (cV 9) (cC (.int 0)))) (sSet 11 (c2 gAdd (cC (.str "x")) (cA gStr (aC (c2 gMod (cV 10) (c2 gIx (cV 2) (cC (.int 1)))) aN)))) sNil)
    (sSeq (sIf (cB (c2 gEq (cV 9) (cC (.int 1)))) (sSet 11 (cA gStr (aC (c2 gMod (cV 10) (c2 gIx (cV 2) (cC (.int 0)))) aN))) sNil)
    (sFz 11 (sApp 8 (cV 11))))))
def L1__law_random : VEnv → Out :=
  (sSeq (sSet 7 (cSl (cV 5) (oS (c2 gAdd (cC (.int 1)) (c2 gMul (cC (.int 7)) (cV 6)))) (oS (c2 gAdd (cC (.int 8)) (c2 gMul (cC (.int 7)) (cV 6))))))
    (sSeq (sSet 8 (cA gList aN))
    (sSeq (sFor (.tp [9, 10]) (iL (cA gList (aC (cA gTupl (aC (c2 gIx (cV 7) (cC (.int 3))) (aC (c2 gIx (cV 7) (cC (.int 4))) aN))) (aC (cA gTupl (aC (c2 gIx (cV 7) (cC (.int 5))) (aC (c2 gIx (cV 7) (cC (.int 6))) aN))) aN)))) L0__law_random)
    (sApp 4 (cA gTupl (aC (c2 gIx (cV 7) (cC (.int 0))) (aC (c2 gIx (cC (.str "+-")) (c2 gIx (cV 7) (cC (.int 1)))) (aC (c2 gIx (cC (.str "+-*")) (c2 gIx (cV 7) (cC (.int 2)))) (aC (c2 gIx (cV 8) (cC (.int 0))) (aC (c2 gIx (cV 8) (cC (.int 1))) aN))))))))))
def B__law_random : VEnv → Out :=
  (sSeq (sSet 4 (cA gList aN))
    (sSeq (sSet 5 (cA (fun rs => if rs.length = 3 then F__law_draw (rs.map RV.arg) else .no) (aC (cV 0) (aC (cV 1) (aC (c2 gAdd (cA gList (aC (cV 3) aN)) (c2 gRep (cA gList (aC (cC (.int 8)) (aC (cC (.int 2)) (aC (cC (.int 3)) (aC (cC (.int 3)) (aC (cC (.int 13)) (aC (cC (.int 3)) (aC (cC (.int 13)) aN)))))))) (cV 3))) aN)))))
    (sSeq (sFor (.nm 6) (iR gR1 (aC (c2 gIx (cV 5) (cC (.int 0))) aN)) L1__law_random)
    (sRetV 4))))
def F__law_random : List RV → Rs RV := fnD 12 B__law_random
def B__law_inputs : VEnv → Out :=
  (sSeq (sSet 3 (cA (fun rs => if rs.length = 3 then F__law_draw (rs.map RV.arg) else .no) (aC (cV 0) (aC (cV 1) (aC (c2 gRep (cA gList (aC (c2 gIx (cV 2) (cC (.int 0))) aN)) (c2 gIx (cV 2) (cC (.int 1)))) aN)))))
    (sRet (cA gListC (aC (cV 3) aN))))
def F__law_inputs : List RV → Rs RV := fnD 4 B__law_inputs
def B_Machine_registers : VEnv → Out :=
  (sRet (cA gListC (aC (c2 gIx (cFld "Machine" 0 "_states") (cFld "Machine" 0 "_position")) aN)))
def F_Machine_registers : List RV → Rs RV := fnD 1 B_Machine_registers
def B_Machine_forward : VEnv → Out :=
  (sSeq (sIf (cB (c2 gEq (cFld "Machine" 0 "_position") (cA gLen (aC (cFld "Machine" 0 "_code") aN)))) (sRetS (cC .none)) sNil)
    (sSeq (sFldS "Machine" false 0 "_position" (c2 gAdd (cFld "Machine" 0 "_position") (cC (.int 1))))
    (sRetS (c2 gIx (cFld "Machine" 0 "_code") (c2 gSub (cFld "Machine" 0 "_position") (cC (.int 1)))))))
def F_Machine_forward : List RV → MR := fnM 1 B_Machine_forward
def B_Machine_backward : VEnv → Out :=
  (sSeq (sIf (cB (c2 gEq (cFld "Machine" 0 "_position") (cC (.int 0)))) (sRetS (cC .none)) sNil)
    (sSeq (sFldS "Machine" false 0 "_position" (c2 gSub (cFld "Machine" 0 "_position") (cC (.int 1))))
    (sRetS (c2 gIx (cFld "Machine" 0 "_code") (cFld "Machine" 0 "_position")))))
def F_Machine_backward : List RV → MR := fnM 1 B_Machine_backward
def B_Machine_position : VEnv → Out :=
  (sRet (cFld "Machine" 0 "_position"))
def F_Machine_position : List RV → Rs RV := fnD 1 B_Machine_position
def B__law_result : VEnv → Out :=
  (sSeq (sIf (cB (c2 gEq (cV 0) (cC (.str "+")))) (sRet (c2 gMod (c2 gAdd (cV 1) (cV 2)) (cV 3))) sNil)
    (sSeq (sIf (cB (c2 gEq (cV 0) (cC (.str "-")))) (sRet (c2 gMod (c2 gSub (cV 1) (cV 2)) (cV 3))) sNil)
    (sRet (c2 gMod (c2 gMul (cV 1) (cV 2)) (cV 3)))))
def F__law_result : List RV → Rs RV := fnD 4 B__law_result
def B__law_value : VEnv → Out :=
  (sSeq (sIf (cB (c2 gEq (c2 gIx (cV 0) (cC (.int 0))) (cC (.str "x")))) (sRet (c2 gIx (cV 1) (cA gInt (aC (cSl (cV 0) (oS (cC (.int 1))) oN) aN)))) sNil)
    (sSeq (sIf (bOr (cB (c2 gEq (c2 gIx (cV 0) (cC (.int 0))) (cC (.str "s")))) (cB (c2 gEq (c2 gIx (cV 0) (cC (.int 0))) (cC (.str "r"))))) (sRet (c2 gIx (cV 2) (cA gInt (aC (cSl (cV 0) (oS (cC (.int 1))) oN) aN)))) sNil)
    (sRet (cA gInt (aC (cV 0) aN)))))
def F__law_value : List RV → Rs RV := fnD 3 B__law_value
def L0__law_after : VEnv → Out :=
  (sSeq (sSet 10 (cA (fun rs => if rs.length = 4 then F__law_result (rs.map RV.arg) else .no) (aC (cV 7) (aC (cA (fun rs => if rs.length = 3 then F__law_value (rs.map RV.arg) else .no) (aC (cV 8) (aC (cV 2) (aC (cV 4) aN)))) (aC (cA (fun rs => if rs.length = 3 then F__law_value (rs.map RV.arg) else .no) (aC (cV 9) (aC (cV 2) (aC (cV 4) aN)))) (aC (c2 gIx (cV 0) (cC (.int 0))) aN))))))
    (sSeq (sIf (cB (c2 gEq (cV 6) (cC (.str "-")))) (sSet 10 (c1 gNeg (cV 10))) sNil)
    (sStore 4 (cV 5) (c2 gMod (c2 gAdd (c2 gIx (cV 4) (cV 5)) (cV 10)) (c2 gIx (cV 0) (cC (.int 0)))))))
def B__law_after : VEnv → Out :=
  (sSeq (sSet 4 (cA gListC (aC (cV 3) aN)))
    (sSeq (sFor (.tp [5, 6, 7, 8, 9]) (iA (cV 1)) L0__law_after)
    (sRetV 4)))
def F__law_after : List RV → Rs RV := fnD 11 B__law_after
def L0_law : VEnv → Out :=
  (sSeq (sSet 9 (cC .none))
    (sSeq (sIf (cB (c2 gLt (c2 gIx (cA (fun rs => if rs.length = 3 then F__law_draw (rs.map RV.arg) else .no) (aC (cV 0) (aC (cV 8) (aC (cA gList (aC (cC (.int 5)) aN)) aN)))) (cC (.int 0))) (cC (.int 3)))) (sSeq (sIf (cB (c2 gLt (cV 7) (cA gLen (aC (cV 2) aN)))) (sSeq (sSet 9 (c2 gIx (cV 2) (cV 7)))
    (sSet 7 (c2 gAdd (cV 7) (cC (.int 1))))) sNil)
    (sSetM 10 (cM "Machine" 6 "forward" F_Machine_forward aN))) (sSeq (sIf (cB (c2 gGt (cV 7) (cC (.int 0)))) (sSeq (sSet 7 (c2 gSub (cV 7) (cC (.int 1))))
    (sSet 9 (c2 gIx (cV 2) (cV 7)))) sNil)
    (sSetM 10 (cM "Machine" 6 "backward" F_Machine_backward aN))))
    (sSeq (sIf (bOr (cB (c2 gNe (cV 10) (cV 9))) (cB (c2 gNe (cProp "Machine" 6 F_Machine_position) (cV 7)))) (sRet (cC (.bool false))) sNil)
    (sSeq (sFz 3 (sFz 1 (sIf (cB (c2 gNe (cProp "Machine" 6 F_Machine_registers) (cA (fun rs => if rs.length = 4 then F__law_after (rs.map RV.arg) else .no) (aC (cV 1) (aC (cSl (cV 2) oN (oS (cV 7))) (aC (cV 3) (aC (c2 gRep (cA gList (aC (cC (.int 0)) aN)) (cC (.int 8))) aN))))))) (sRet (cC (.bool false))) sNil)))
    (sAppT (cProp "Machine" 6 F_Machine_registers) (cC (.int 1)))))))
def B_law : VEnv → Out :=
  (sSeq (sSet 1 (cA (fun rs => if rs.length = 3 then F__law_program (rs.map RV.arg) else .no) (aC (cV 0) (aC (cC (.int 0)) (aC (cC (.int 4)) aN)))))
    (sSeq (sFz 1 (sSet 2 (cA (fun rs => if rs.length = 4 then F__law_random (rs.map RV.arg) else .no) (aC (cV 0) (aC (cC (.int 1)) (aC (cV 1) (aC (cC (.int 8)) aN)))))))
    (sSeq (sFz 1 (sSet 3 (cA (fun rs => if rs.length = 3 then F__law_inputs (rs.map RV.arg) else .no) (aC (cV 0) (aC (cC (.int 2)) (aC (cV 1) aN))))))
    (sSeq (sSet 4 (cA gListC (aC (cV 2) aN)))
    (sSeq (sSet 5 (cA gListC (aC (cV 3) aN)))
    (sSeq (sFz 1 (sSet 6 (cA (mkO (fun rs => if rs.length = 4 then F_Machine___init__ rs else .no) "Machine") (aC (cV 1) (aC (cV 4) (aC (cV 5) aN))))))
    (sSeq (sApp 4 (cA gTupl (aC (cC (.int 0)) (aC (cC (.str "+")) (aC (cC (.str "+")) (aC (cC (.str "0")) (aC (cC (.str "1")) aN)))))))
    (sSeq (sStore 5 (cC (.int 0)) (c2 gMod (c2 gAdd (c2 gIx (cV 5) (cC (.int 0))) (cC (.int 1))) (c2 gIx (cV 1) (cC (.int 0)))))
    (sSeq (sSet 7 (cC (.int 0)))
    (sSeq (sFor (.nm 8) (iR gR2 (aC (cC (.int 3)) (aC (cA gMin2 (aC (cC (.int 33)) (aC (cA gMax2 (aC (cC (.int 4)) (aC (cA gLen (aC (cV 0) aN)) aN))) aN))) aN))) L0_law)
    (sRet (c2 gEq (cA gLen (aC (cProp "Machine" 6 F_Machine_registers) aN)) (cC (.int 8))))))))))))))
def F_law : List RV → Rs RV := fnD 11 B_law
/-! ### cells and draws -/
def cell (ns : List Int) (k : Nat) : Int := ns.getD k 0
theorem cell_ok (ns : List Int) (k : Nat) : F__law_cell [.sc ns, .d (.int k)] = .ok (.d (.int (cell ns k))) := by
  unfold F__law_cell fnD B__law_cell
  simp [e_V]
  by_cases h : k < ns.length
  · simp [h, atI_lt, cell]
  · simp [h, cell]
/-- what the digits of a draw satisfy -/
structure Drawn (sizes ds : List Int) : Prop where
  len : ds.length = sizes.length
  lo : ∀ i (h : i < ds.length), 0 ≤ ds[i]
  hi : ∀ i (h : i < ds.length) (h' : i < sizes.length), ds[i] < sizes[i]
theorem Drawn.snoc {sizes ds : List Int} {s d : Int} (h : Drawn sizes ds) (h0 : 0 ≤ d) (h1 : d < s) : Drawn (sizes ++ [s]) (ds ++ [d]) := by
  refine ⟨by simp [h.len], fun i hi => ?_, fun i hi hi' => ?_⟩
  · by_cases c : i < ds.length
    · rw [List.getElem_append_left c]; exact h.lo i c
    · rw [List.getElem_append_right (by omega)]; simpa using h0
  · by_cases c : i < ds.length
    · rw [List.getElem_append_left c, List.getElem_append_left (by rw [← h.len]; exact c)]; exact h.hi i c _
    · rw [List.getElem_append_right (by omega), List.getElem_append_right (by rw [← h.len]; omega)]; simpa using h1
def Sizes (sizes : List Int) : Prop := ∀ s ∈ sizes, 0 < s ∧ s < 1073741824
/-- the loop of the first way -/
theorem draw_far (sizes : List Int) (hs : Sizes sizes) (a b : RV) (k : PyData) : ∀ (xs pre ds : List Int) (c : Int) (j5 j6 j7 : Option RV), pre ++ xs = sizes → Drawn pre ds → sizes.length ≤ 1000 → 0 ≤ c →
    ∃ (ds' : List Int) (c' : Int) (j5' : Option RV), loopF (.nm 5) (sSeq (sApp 4 (c2 gMod (cV 3) (cV 5))) (sSet 3 (c2 gDiv (cV 3) (cV 5)))) (xs.map .int) [some a, some b, some (.d k), some (.d (.int c)), some (.ol (ds.map .int)), j5, j6, j7] = .nx [some a, some b, some (.d k), some (.d (.int c')), some (.ol (ds'.map .int)), j5', j6, j7] ∧ Drawn sizes ds'
  | [], pre, ds, c, j5, j6, j7, e, h, hl, h0 => ⟨ds, c, j5, rfl, by rw [← e, List.append_nil]; exact h⟩
  | x :: xs, pre, ds, c, j5, j6, j7, e, h, hl, h0 => by
    have hx0 : 0 < x ∧ x < 1073741824 := hs x (by rw [← e]; simp)
    have hx : 0 < x ∧ x.natAbs < 1073741824 := by omega
    have hlen : ds.length ≤ 1000000 := by
      have : pre.length ≤ sizes.length := by (rw [← e]; simp)
      rw [h.len]; omega
    obtain ⟨ds', c', j5', e1, d1⟩ := draw_far sizes hs a b k xs (pre ++ [x]) (ds ++ [c % x]) (c / x) (some (.d (.int x))) j6 j7 (by rw [← e]; simp) (h.snoc (Int.emod_nonneg c (by omega)) (Int.emod_lt_of_pos c hx.1)) hl (Int.ediv_nonneg h0 (by omega))
    refine ⟨ds', c', j5', ?_, d1⟩
    rw [List.map_cons, loopF_cons]
    simp [e_app, e_V, hx, hlen]
    simpa using e1
/-- the loop of the second way -/
theorem draw_near (sizes : List Int) (hs : Sizes sizes) (a b : RV) (j3 j5 : Option RV) : ∀ (n i : Nat) (ds : List Int) (m : Int) (j7 : Option RV), i + n = sizes.length → Drawn (sizes.take i) ds → sizes.length ≤ 1000 → 0 ≤ m → m < 2147483647 →
    ∃ (ds' : List Int) (m' : Int) (j7' : Option RV), loopF (.nm 7) (sSeq (sSet 6 (c2 gMod (c2 gAdd (c2 gAdd (c2 gMul (cV 6) (cC (.int 48271))) (cC (.int 11))) (cV 7)) (cC (.int 2147483647))))
    (sSeq (sSet 6 (c2 gMod (c2 gAdd (c2 gMul (cV 6) (cC (.int 69621))) (cC (.int 3))) (cC (.int 2147483647))))
    (sApp 4 (c2 gMod (c2 gDiv (cV 6) (cC (.int 7))) (c2 gIx (cV 2) (cV 7)))))) ((List.range' i n).map fun k : Nat => .int (k : Int)) [some a, some b, some (.d (.list (sizes.map .int))), j3, some (.ol (ds.map .int)), j5, some (.d (.int m)), j7] = .nx [some a, some b, some (.d (.list (sizes.map .int))), j3, some (.ol (ds'.map .int)), j5, some (.d (.int m')), j7'] ∧ Drawn sizes ds'
  | 0, i, ds, m, j7, e, h, hl, h0, h1 => ⟨ds, m, j7, rfl, by rw [Nat.add_zero] at e; rw [e, List.take_length] at h; exact h⟩
  | n + 1, i, ds, m, j7, e, h, hl, h0, h1 => by
    have hi : i < sizes.length := by omega
    have hx : 0 < sizes[i] ∧ sizes[i] < 1073741824 := hs _ (List.getElem_mem hi)
    have hlen : ds.length ≤ 1000000 := by rw [h.len, List.length_take]; omega
    have q1 : 0 ≤ ((m * 48271 + 11 + (i : Int)) % 2147483647 * 69621 + 3) % 2147483647 := Int.emod_nonneg _ (by decide)
    have q2 : ((m * 48271 + 11 + (i : Int)) % 2147483647 * 69621 + 3) % 2147483647 < 2147483647 := Int.emod_lt_of_pos _ (by decide)
    have q3 : 0 ≤ (m * 48271 + 11 + (i : Int)) % 2147483647 := Int.emod_nonneg _ (by decide)
    have q4 : (m * 48271 + 11 + (i : Int)) % 2147483647 < 2147483647 := Int.emod_lt_of_pos _ (by decide)
    have et : sizes.take (i + 1) = sizes.take i ++ [sizes[i]] := by rw [List.take_add_one, List.getElem?_eq_getElem hi]; rfl
    obtain ⟨ds', m', j7', e1, d1⟩ := draw_near sizes hs a b j3 j5 n (i + 1) (ds ++ [((m * 48271 + 11 + (i : Int)) % 2147483647 * 69621 + 3) % 2147483647 / 7 % sizes[i]]) (((m * 48271 + 11 + (i : Int)) % 2147483647 * 69621 + 3) % 2147483647) (some (.d (.int i))) (by omega)
      (by rw [et]; exact h.snoc (Int.emod_nonneg _ (by omega)) (Int.emod_lt_of_pos _ hx.1)) hl q1 q2
    refine ⟨ds', m', j7', ?_, d1⟩
    rw [List.range'_succ, List.map_cons, loopF_cons]
    have b1 : m.natAbs < 18446744073709551616 := by omega
    have b2 : ((m * 48271 + 11 + (i : Int)) % 2147483647).natAbs < 18446744073709551616 := by omega
    have ea : atI (sizes.map PyData.int) (i : Int) = some (.int sizes[i]) := by rw [atI_lt (by omega) (by simpa using hi)]; simp [hi]
    simp [e_app, e_V, hlen, ea, hx, b1, b2]
    simpa using e1
/-- what follows the cell -/
def drawTail : VEnv → Out := (sSeq (sSet 4 (cA gList aN))
    (sSeq (sIf (cB (c2 gGe (cV 3) (c2 gPow (cC (.int 10)) (cC (.int 18))))) (sSeq (sSet 3 (c2 gSub (cV 3) (c2 gPow (cC (.int 10)) (cC (.int 18)))))
    (sSeq (sFor (.nm 5) (iL (cV 2)) (sSeq (sApp 4 (c2 gMod (cV 3) (cV 5)))
    (sSet 3 (c2 gDiv (cV 3) (cV 5)))))
    (sRetV 4))) sNil)
    (sSeq (sSet 6 (c2 gMod (c2 gAdd (c2 gAdd (cV 3) (cC (.int 1))) (c2 gMul (cC (.int 31)) (cV 1))) (cC (.int 2147483647))))
    (sSeq (sFor (.nm 7) (iR gR1 (aC (cA gLen (aC (cV 2) aN)) aN)) (sSeq (sSet 6 (c2 gMod (c2 gAdd (c2 gAdd (c2 gMul (cV 6) (cC (.int 48271))) (cC (.int 11))) (cV 7)) (cC (.int 2147483647))))
    (sSeq (sSet 6 (c2 gMod (c2 gAdd (c2 gMul (cV 6) (cC (.int 69621))) (cC (.int 3))) (cC (.int 2147483647))))
    (sApp 4 (c2 gMod (c2 gDiv (cV 6) (cC (.int 7))) (c2 gIx (cV 2) (cV 7)))))))
    (sRetV 4)))))
theorem draw_far' (ns : List Int) (k : Nat) (sizes : List Int) (hs : Sizes sizes) (hl : sizes.length ≤ 1000) (c : Int) (hf : 1000000000000000000 ≤ c) :
    ∃ ds : List Int, drawTail [some (.sc ns), some (.d (.int k)), some (.d (.list (sizes.map .int))), some (.d (.int c)), none, none, none, none] = .rt (.ol (ds.map .int)) ∧ Drawn sizes ds := by
  obtain ⟨ds', c', j5', e1, d1⟩ := draw_far sizes hs (.sc ns) (.d (.int k)) (.list (sizes.map .int)) sizes [] [] (c - 1000000000000000000) none none none (by simp) ⟨rfl, fun i h => by simp at h, fun i h => by simp at h⟩ hl (by omega)
  refine ⟨ds', ?_, d1⟩
  simp at e1
  unfold drawTail
  simp [e_V, hf, e1, e_retV]
theorem mix_ok (ns : List Int) (k : Nat) (sizes : List Int) (c : Int) : sSet 6 (c2 gMod (c2 gAdd (c2 gAdd (cV 3) (cC (.int 1))) (c2 gMul (cC (.int 31)) (cV 1))) (cC (.int 2147483647))) [some (.sc ns), some (.d (.int k)), some (.d (.list (sizes.map .int))), some (.d (.int c)), some (.ol []), none, none, none]
      = .nx [some (.sc ns), some (.d (.int k)), some (.d (.list (sizes.map .int))), some (.d (.int c)), some (.ol []), none, some (.d (.int ((c + 1 + 31 * (k : Int)) % 2147483647))), none] := by
  simp only [e_set, e_c2, e_V, List.getElem?_cons_zero, List.getElem?_cons_succ, Rs.bind_ok, e_bor1, e_cC, e_addI]
  rw [e_mul, if_pos (Or.inl (by decide))]
  simp only [Rs.bind_ok, e_addI]
  rw [e_mod, if_pos (by decide)]
  simp only [Rs.out_ok, e_putd]
  rw [if_pos (by show 6 < 8; decide)]
  rfl
theorem draw_near' (ns : List Int) (k : Nat) (sizes : List Int) (hs : Sizes sizes) (hl : sizes.length ≤ 1000) (c : Int) (hf : ¬ 1000000000000000000 ≤ c) :
    ∃ ds : List Int, drawTail [some (.sc ns), some (.d (.int k)), some (.d (.list (sizes.map .int))), some (.d (.int c)), none, none, none, none] = .rt (.ol (ds.map .int)) ∧ Drawn sizes ds := by
  obtain ⟨m, hm⟩ : ∃ m, m = (c + 1 + 31 * (k : Int)) % 2147483647 := ⟨_, rfl⟩
  have m0 : 0 ≤ m := by rw [hm]; exact Int.emod_nonneg _ (by decide)
  have m1 : m < 2147483647 := by rw [hm]; exact Int.emod_lt_of_pos _ (by decide)
  have hset := mix_ok ns k sizes c
  rw [← hm] at hset
  clear hm
  obtain ⟨ds', m', j7', e1, d1⟩ := draw_near sizes hs (.sc ns) (.d (.int k)) (some (.d (.int c))) none sizes.length 0 [] m none (by omega) ⟨rfl, fun i h => by simp at h, fun i h => by simp at h⟩ hl m0 m1
  refine ⟨ds', ?_, d1⟩
  rw [← List.range_eq_range', ← rngL_eq] at e1
  have hr : iR gR1 (aC (cA gLen (aC (cV 2) aN)) aN) [some (.sc ns), some (.d (.int k)), some (.d (.list (sizes.map .int))), some (.d (.int c)), some (.ol []), none, some (.d (.int m)), none] = .ok (rngL 0 sizes.length) := by
    have b1 : (sizes.map PyData.int).length ≤ 1000000 := by rw [List.length_map]; omega
    have := e_R1n b1
    rw [List.length_map] at this
    simp only [e_iR, e_aC, e_cA, e_aN, e_V, List.getElem?_cons_succ, List.getElem?_cons_zero, Rs.bind_ok, e_bor1, e_lenL, List.length_map]
    exact this
  have hc : cB (c2 gGe (cV 3) (c2 gPow (cC (.int 10)) (cC (.int 18)))) [some (.sc ns), some (.d (.int k)), some (.d (.list (sizes.map .int))), some (.d (.int c)), some (.ol []), none, none, none] = .ok false := by
    simp [e_V, hf]
  have h4 : sSet 4 (cA gList aN) [some (.sc ns), some (.d (.int k)), some (.d (.list (sizes.map .int))), some (.d (.int c)), none, none, none, none] = .nx [some (.sc ns), some (.d (.int k)), some (.d (.list (sizes.map .int))), some (.d (.int c)), some (.ol []), none, none, none] := by simp
  unfold drawTail
  rw [e_seq, h4, Out.then_nx, e_seq, e_if, hc]
  simp only [Rs.out_ok, Bool.false_eq_true, if_false, e_nil, Out.then_nx]
  rw [e_seq, hset, Out.then_nx, e_seq, e_for, hr]
  simp only [Rs.out_ok]
  rw [show ([] : List PyData) = ([] : List Int).map .int from rfl, e1]
  simp [e_retV]
theorem draw_ok (ns : List Int) (k : Nat) (sizes : List Int) (hs : Sizes sizes) (hl : sizes.length ≤ 1000) : ∃ ds : List Int, F__law_draw [.sc ns, .d (.int k), .d (.list (sizes.map .int))] = .ok (.ol (ds.map .int)) ∧ Drawn sizes ds := by
  have eb : B__law_draw = sSeq (sSet 3 (cA (fun rs => if rs.length = 2 then F__law_cell (rs.map RV.arg) else .no) (aC (cV 0) (aC (cV 1) aN))))
    (sSeq (sIf (cB (c2 gLt (cV 3) (cC (.int 0)))) (sSet 3 (c1 gNeg (cV 3))) sNil) drawTail) := rfl
  unfold F__law_draw fnD
  rw [eb]
  have hc := cell_ok ns k
  generalize cell ns k = c at hc
  have step : ∀ c : Int, ∃ ds : List Int, drawTail [some (.sc ns), some (.d (.int k)), some (.d (.list (sizes.map .int))), some (.d (.int c)), none, none, none, none] = .rt (.ol (ds.map .int)) ∧ Drawn sizes ds := fun c => by
    by_cases hf : (1000000000000000000 : Int) ≤ c
    · exact draw_far' ns k sizes hs hl c hf
    · exact draw_near' ns k sizes hs hl c hf
  simp [e_V, hc]
  by_cases hn : c < 0
  · obtain ⟨ds, e1, d1⟩ := step (-c)
    refine ⟨ds, ?_, d1⟩
    simp [hn, e_V, e1]
  · obtain ⟨ds, e1, d1⟩ := step c
    refine ⟨ds, ?_, d1⟩
    simp [hn, e_V, e1]
/-! ### drawn tasks -/
theorem loopF_ex {β : Type} {tg : Tg} {f : VEnv → Out} (R : Nat → VEnv → Prop) (emb : β → PyData) (xs : List β) (env : VEnv)
    (h : ∀ i env x, xs[i]? = some x → R i env → ∃ e1, tgE tg (emb x) env = some e1 ∧ ∃ env', (f e1 = .nx env' ∨ f e1 = .ct env') ∧ R (i + 1) env') (h0 : R 0 env) : ∃ env', loopF tg f (xs.map emb) env = .nx env' ∧ R xs.length env' := by
  obtain ⟨env', e, r⟩ := loopF_rel (α := Unit) (fun i _ env => R i env) emb (fun _ _ => ()) xs () env (fun i _ env x hx r => h i env x hx r) h0
  exact ⟨env', e, r⟩
def natI (k : Nat) : PyData := .int (k : Int)
theorem rng_nat (n : Nat) : rngL 0 n = (List.range n).map natI := rngL_eq n
/-- ascending, from 0 to below b -/
structure Asc (b : Int) (xs : List Int) : Prop where
  up : xs.Pairwise (· < ·)
  lo : ∀ x ∈ xs, 0 ≤ x
  hi : ∀ x ∈ xs, x < b
theorem Asc.nil (b : Int) : Asc b [] := ⟨.nil, by simp, by simp⟩
theorem Asc.snoc {b x : Int} {xs : List Int} (h : Asc x xs) (h0 : 0 ≤ x) (h1 : x < b) : Asc b (xs ++ [x]) :=
  ⟨List.pairwise_append.mpr ⟨h.up, List.pairwise_singleton _ _, fun y hy z hz => by rw [List.mem_singleton.mp hz]; exact h.hi y hy⟩,
    fun y hy => by rcases List.mem_append.mp hy with z | z; exact h.lo y z; rw [List.mem_singleton.mp z]; exact h0,
    fun y hy => by rcases List.mem_append.mp hy with z | z; (have := h.hi y z; omega); rw [List.mem_singleton.mp z]; exact h1⟩
theorem Asc.mono {b c : Int} {xs : List Int} (h : Asc b xs) (e : b ≤ c) : Asc c xs := ⟨h.up, h.lo, fun x hx => Int.lt_of_lt_of_le (h.hi x hx) e⟩
theorem Asc.len {b : Nat} : ∀ {xs : List Int}, Asc b xs → xs.length ≤ b := by
  induction b with
  | zero => intro xs h; cases xs with
    | nil => simp
    | cons x xs => have := h.lo x List.mem_cons_self; have := h.hi x List.mem_cons_self; omega
  | succ b ih =>
    intro xs h
    rcases List.eq_nil_or_concat xs with rfl | ⟨ys, y, rfl⟩
    · simp
    · rw [List.concat_eq_append] at h ⊢
      have hu := List.pairwise_append.mp h.up
      have : Asc (b : Int) ys := ⟨hu.1, fun z hz => h.lo z (List.mem_append_left _ hz), fun z hz => by
        have h1 := hu.2.2 z hz y (List.mem_singleton.mpr rfl)
        have h2 := h.hi y (List.mem_append_right _ (List.mem_singleton.mpr rfl))
        omega⟩
      have := ih this
      simp
      omega
/-- a task: each step uses ascending earlier steps; ascending targets, at least one -/
structure WF (most : Nat) (us : List (List Int)) (ts : List Int) : Prop where
  one : 1 ≤ us.length
  len : us.length ≤ most
  use : ∀ (k : Nat) (u : List Int), us[k]? = some u → Asc k u
  tgt : Asc us.length ts
  some : ts ≠ []
theorem drawn_at {sizes ds : List Int} (h : Drawn sizes ds) {i : Nat} {s : Int} (hi : sizes[i]? = some s) : ∃ d, ds[i]? = some d ∧ 0 ≤ d ∧ d < s := by
  obtain ⟨h1, h2⟩ := List.getElem?_eq_some_iff.mp hi
  have h3 : i < ds.length := by rw [h.len]; exact h1
  exact ⟨ds[i], List.getElem?_eq_getElem h3, h.lo i h3, by rw [← h2]; exact h.hi i h3 h1⟩
theorem atI_ints {ds : List Int} {i : Nat} {d : Int} (h : ds[i]? = some d) : atI (ds.map PyData.int) (i : Int) = some (.int d) := by
  rw [atI_lt (by omega) (by simpa using (List.getElem?_eq_some_iff.mp h).1)]
  simp [h]
theorem range_at {n i x : Nat} (h : (List.range n)[i]? = some x) : x = i ∧ i < n := by
  have hi : i < n := by simpa using (List.getElem?_eq_some_iff.mp h).1
  rw [List.getElem?_range hi] at h
  exact ⟨(Option.some.inj h).symm, hi⟩
/-! ### draws as naturals -/
theorem draw_nat (ns : List Int) (k : Nat) (sz : List Nat) (hs : ∀ s ∈ sz, 0 < s ∧ s < 1000000) (hl : sz.length ≤ 1000) : ∃ nd : List Nat, F__law_draw [.sc ns, .d (.int k), .d (.list (sz.map natI))] = .ok (.ol (nd.map natI)) ∧ nd.length = sz.length ∧ ∀ (i s : Nat), sz[i]? = some s → ∃ d, nd[i]? = some d ∧ d < s := by
  obtain ⟨ds, e, dr⟩ := draw_ok ns k (sz.map fun n : Nat => (n : Int)) (by
    intro s hs'
    obtain ⟨n, hn, rfl⟩ := List.mem_map.mp hs'
    have := hs n hn
    omega) (by simpa using hl)
  have el : ds.length = sz.length := by have := dr.len; simpa using this
  have eds : ds = (ds.map Int.toNat).map fun n : Nat => (n : Int) := by
    rw [List.map_map]
    refine (List.map_id _).symm.trans (List.map_congr_left fun x hx => ?_)
    obtain ⟨i, hi, rfl⟩ := List.getElem_of_mem hx
    have := dr.lo i hi
    show ds[i] = ((ds[i].toNat : Nat) : Int)
    omega
  have m1 : (sz.map fun n : Nat => (n : Int)).map PyData.int = sz.map natI := by rw [List.map_map]; rfl
  have m2 : ds.map PyData.int = (ds.map Int.toNat).map natI := by
    conv => lhs; rw [eds]
    rw [List.map_map]; rfl
  rw [m1, m2] at e
  refine ⟨ds.map Int.toNat, e, by simpa using el, fun i s hi => ?_⟩
  obtain ⟨d, q1, q2, q3⟩ := drawn_at dr (i := i) (s := (s : Int)) (by rw [List.getElem?_map, hi]; rfl)
  exact ⟨d.toNat, by rw [List.getElem?_map, q1]; rfl, by omega⟩
theorem atI_nats {ds : List Nat} {i d : Nat} (h : ds[i]? = some d) : atI (ds.map natI) (i : Int) = some (natI d) := by
  rw [atI_lt (by omega) (by simpa using (List.getElem?_eq_some_iff.mp h).1)]
  simp [h]
theorem e_modN (a n : Nat) (h : 0 < n) : gMod (.d (.int a)) (.d (.int n)) = .ok (.d (.int ((a % n : Nat) : Int))) := by
  rw [e_mod, if_pos (by omega)]
  rfl
/-! ### texts: a letter and a number -/
def numS (n : Nat) : Str := Str.ofString (toString (n : Int))
def lx (c : Str) (n : Nat) : Str := c ++ numS n
theorem num_l (n : Nat) : (numS n).cps.toList = numL n := tl_num n
theorem num_len {n : Nat} (h : n < 100000) : (numS n).length ≤ 5 := by
  have e : (numS n).length = (numL n).length := by rw [← num_l n]; rfl
  rw [e]
  exact numL_len (by decide) (by simpa using h)
theorem log_ok (n : Nat) (h : n < 100000) : ((n : Int)).natAbs.log2 < 1920 := by
  have h1 : ((n : Int)).natAbs = n := rfl
  rw [h1]
  by_cases h0 : n = 0
  · subst h0; decide
  · exact (Nat.log2_lt h0).mpr (Nat.lt_of_lt_of_le h (by decide))
theorem str_ok {n : Nat} (h : n < 100000) : gStr [.d (.int n)] = .ok (.d (.str (numS n))) := if_pos (log_ok n h)
theorem int_ok {n : Nat} (h : n < 100000) : gInt [.d (.str (numS n))] = .ok (.d (.int n)) := by
  have e : PySem.intText? (numS n) = some (n : Int) := int_num (Nat.le_trans (numL_len (k := 5) (by decide) (by simpa using h)) (by decide))
  show (rsO (PySem.intText? (numS n))).bind _ = _
  rw [e]
  have := num_len h
  simp only [rsO_some, Rs.bind_ok]
  rw [if_pos (by omega)]
  rfl
theorem app_l (a b : Str) : (a ++ b).cps.toList = a.cps.toList ++ b.cps.toList := by
  show (a.cps ++ b.cps).toList = _
  simp
theorem str_ext {a b : Str} (h : a.cps.toList = b.cps.toList) : a = b := by
  cases a; cases b
  congr 1
  exact Array.toList_inj.mp h
/-- the letters -/
structure Letter (c : Str) (k : Nat) : Prop where
  l : c.cps.toList = [k]
theorem let_x : Letter "x" 120 := ⟨by decide +kernel⟩
theorem let_r : Letter "r" 114 := ⟨by decide +kernel⟩
theorem let_s : Letter "s" 115 := ⟨by decide +kernel⟩
theorem Letter.eq {c : Str} {k : Nat} (h : Letter c k) : c = ⟨#[k]⟩ := str_ext h.l
theorem Letter.len {c : Str} {k : Nat} (h : Letter c k) : c.length = 1 := by
  have : c.length = c.cps.toList.length := by show c.cps.size = _; simp
  rw [this, h.l]; rfl
theorem lx_l {c : Str} {k : Nat} (h : Letter c k) (n : Nat) : (lx c n).cps.toList = k :: numL n := by
  unfold lx
  rw [app_l, h.l, num_l]; rfl
theorem lx_len {c : Str} {k : Nat} (h : Letter c k) {n : Nat} (hn : n < 100000) : (lx c n).length ≤ 6 := by
  have e : (lx c n).length = (lx c n).cps.toList.length := by show (lx c n).cps.size = _; simp
  have := numL_len (n := n) (k := 5) (by decide) (by simpa using hn)
  rw [e, lx_l h]
  simp
  exact this
theorem lx_head {c : Str} {k : Nat} (h : Letter c k) {n : Nat} (hn : n < 100000) : gIx (.d (.str (lx c n))) (.d (.int 0)) = .ok (.d (.str c)) := by
  have := lx_len h hn
  rw [e_ixS, if_pos (by omega), lx_l h, atI_zero]
  rw [h.eq]; rfl
theorem num_head {n : Nat} (hn : n < 100000) : ∃ d, 48 ≤ d ∧ d ≤ 57 ∧ gIx (.d (.str (numS n))) (.d (.int 0)) = .ok (.d (.str ⟨#[d]⟩)) := by
  have h1 := num_len hn
  have h2 := numL_digits n
  have h3 := numL_ne n
  rw [e_ixS, if_pos (by omega), num_l]
  cases e : numL n with
  | nil => exact absurd e h3
  | cons d ds =>
    have := h2 d (by rw [e]; exact List.mem_cons_self)
    exact ⟨d, by omega, by omega, by rw [atI_zero]; rfl⟩
theorem one_ne {a b : Nat} (h : a ≠ b) : (⟨#[a]⟩ : Str) ≠ ⟨#[b]⟩ := fun e => h (by injection e with e; simpa using e)
theorem lx_tail {c : Str} {k : Nat} (h : Letter c k) {n : Nat} (hn : n < 100000) : gSl (.d (.str (lx c n))) (some 1) none = .ok (.d (.str (numS n))) := by
  have hl := lx_len h hn
  have e : (lx c n).length = (numL n).length + 1 := by
    have : (lx c n).length = (lx c n).cps.toList.length := by show (lx c n).cps.size = _; simp
    rw [this, lx_l h]; rfl
  show (if (lx c n).length ≤ 1000000 then Rs.ok (RV.d (.str (cutS (lx c n) (some 1) none))) else .no) = _
  rw [if_pos (by omega)]
  congr 3
  apply str_ext
  unfold cutS
  have e1 : HT.sIx (lx c n).length 0 (some 1) = 1 := by
    rw [show (1 : Int) = ((1 : Nat) : Int) from rfl, HT.sIx_nat]; omega
  rw [e1, HT.sIx_none, e, lx_l h, num_l]
  simp
@[simp] theorem eqv_str (a b : Str) : PyData.eqv (.str a) (.str b) = decide (a = b) := by
  rw [PyData.eqv]
  by_cases h : a = b <;> simp [h]
/-! ### shapes at any depth -/
structure Nice (k : Nat) (d : PyData) : Prop where
  lay : d.canLay0 = true
  dep : d.depth ≤ k
theorem nice_all {k : Nat} : ∀ {ds : List PyData}, (∀ d ∈ ds, Nice k d) → PyData.canLayAll0 ds = true ∧ PyData.depthAll ds ≤ k
  | [], _ => ⟨rfl, Nat.zero_le _⟩
  | d :: ds, h => by
    obtain ⟨h1, h2⟩ := nice_all fun x hx => h x (List.mem_cons_of_mem _ hx)
    have h3 := h d List.mem_cons_self
    refine ⟨?_, ?_⟩
    · show (PyData.canLay0 d && PyData.canLayAll0 ds) = true
      rw [h3.lay, h1]; rfl
    · show max d.depth (PyData.depthAll ds) ≤ k
      have := h3.dep
      omega
theorem Nice.tup {k : Nat} {ds : List PyData} (h : ∀ d ∈ ds, Nice k d) : Nice (k + 1) (.tuple ds) := ⟨(nice_all h).1, Nat.succ_le_succ (nice_all h).2⟩
theorem Nice.lst {k : Nat} {ds : List PyData} (h : ∀ d ∈ ds, Nice k d) : Nice (k + 1) (.list ds) := ⟨(nice_all h).1, Nat.succ_le_succ (nice_all h).2⟩
theorem Nice.int (k : Nat) (i : Int) : Nice k (.int i) := ⟨rfl, Nat.zero_le _⟩
theorem Nice.bool (k : Nat) (i : Bool) : Nice k (.bool i) := ⟨rfl, Nat.zero_le _⟩
theorem Nice.none (k : Nat) : Nice k .none := ⟨rfl, Nat.zero_le _⟩
theorem Nice.str (k : Nat) {s : Str} (h : PyData.strOk s = true) : Nice k (.str s) := ⟨h, Nat.zero_le _⟩
theorem Nice.shaped {k : Nat} {d : PyData} (h : Nice k d) (hk : k ≤ 64) : SeqAt.shaped d = true := by
  unfold SeqAt.shaped
  rw [h.lay, decide_eq_true (Nat.le_trans h.dep hk)]
  rfl
theorem Nice.refl {k : Nat} {d : PyData} (h : Nice k d) : PyData.eqv d d = true := SeqAt.eqv_refl d h.lay
theorem ok_of {s : Str} (h : ∀ c ∈ s.cps.toList, c < 200) : PyData.strOk s = true := by
  unfold PyData.strOk
  rw [Array.all_eq_true']
  intro c hc
  have := h c (by simpa using hc)
  simp
  omega
theorem num_strOk (n : Nat) : PyData.strOk (numS n) = true := ok_of fun c hc => by
  rw [num_l] at hc
  have := numL_digits n c hc
  omega
theorem lx_strOk {c : Str} {k : Nat} (h : Letter c k) (hk : k < 200) (n : Nat) : PyData.strOk (lx c n) = true := ok_of fun d hd => by
  rw [lx_l h] at hd
  rcases List.mem_cons.mp hd with rfl | hd
  · exact hk
  · have := numL_digits n d hd
    omega
/-! ### sources -/
inductive Src where
  | x (i : Nat) | r (i : Nat) | c (n : Nat)
def Src.str : Src → Str
  | .x i => lx "x" i
  | .r i => lx "r" i
  | .c n => numS n
/-- what a source may be, with so many inputs -/
def Src.ok (n : Nat) : Src → Prop
  | .x i => i < n ∧ i < 100000
  | .r i => i < 8
  | .c k => k < 100000
def Src.val (ins regs : List Int) : Src → Int
  | .x i => ins.getD i 0
  | .r i => regs.getD i 0
  | .c n => n
theorem Src.strOk (s : Src) : PyData.strOk s.str = true := by
  cases s with
  | x i => exact lx_strOk let_x (by decide) i
  | r i => exact lx_strOk let_r (by decide) i
  | c n => exact num_strOk n
/-- a list of ints that is read -/
def Ls (a : RV) (xs : List Int) : Prop := a = .d (.list (xs.map .int)) ∨ a = .bl (xs.map .int)
theorem Ls.ix {a : RV} {xs : List Int} (h : Ls a xs) {i : Nat} (hi : i < xs.length) : gIx a.bor (.d (.int i)) = .ok (.d (.int (xs.getD i 0))) := by
  have e : atI (xs.map PyData.int) (i : Int) = some (.int (xs.getD i 0)) := by
    rw [atI_ints (d := xs.getD i 0)]
    simp [hi]
  rcases h with rfl | rfl <;> simp [e]
theorem decNe {a b : Str} (h : a ≠ b) : decide (a = b) = false := decide_eq_false h
theorem x_ne_r : (("x" : Str) = "r") = False := by simp; decide +kernel
theorem r_ne_x : (("r" : Str) = "x") = False := by simp; decide +kernel
theorem sh_str {s : Str} (h : PyData.strOk s = true) : SeqAt.shaped (.str s) = true := (Nice.str 0 h).shaped (by decide)
theorem digit_ne {d k : Nat} {c : Str} (h : Letter c k) (h1 : d ≤ 57) (h2 : 57 < k) : ((⟨#[d]⟩ : Str) = c) = False := by
  rw [h.eq]; simp; omega
theorem digit_ok {d : Nat} (h1 : d ≤ 57) : PyData.strOk ⟨#[d]⟩ = true := ok_of fun c hc => by simp at hc; omega
theorem letx_ok : PyData.strOk "x" = true := by decide +kernel
theorem letr_ok : PyData.strOk "r" = true := by decide +kernel
theorem lets_ok : PyData.strOk "s" = true := by decide +kernel
/-- the head's comparison -/
theorem head_x (i : Nat) (h : i < 100000) (c : Str) (hc : PyData.strOk c = true) : (gIx (.d (.str (lx "x" i))) (.d (.int 0))).bind (fun a => gEq a (.d (.str c))) = .ok (.d (.bool (decide (("x" : Str) = c)))) := by
  rw [lx_head let_x h]
  simp [sh_str letx_ok, sh_str hc]
theorem head_r (i : Nat) (h : i < 100000) (c : Str) (hc : PyData.strOk c = true) : (gIx (.d (.str (lx "r" i))) (.d (.int 0))).bind (fun a => gEq a (.d (.str c))) = .ok (.d (.bool (decide (("r" : Str) = c)))) := by
  rw [lx_head let_r h]
  simp [sh_str letr_ok, sh_str hc]
theorem head_c (n : Nat) (h : n < 100000) {c : Str} {k : Nat} (hl : Letter c k) (hk : 57 < k) (hc : PyData.strOk c = true) : (gIx (.d (.str (numS n))) (.d (.int 0))).bind (fun a => gEq a (.d (.str c))) = .ok (.d (.bool false)) := by
  obtain ⟨d, h1, h2, e⟩ := num_head h
  rw [e]
  simp [sh_str (digit_ok h2), sh_str hc, digit_ne hl h2 hk]
/-! ### instructions -/
inductive Op where
  | add | sub | mul
def Op.str : Op → Str
  | .add => "+"
  | .sub => "-"
  | .mul => "*"
def Op.ap (a b : Int) : Op → Int
  | .add => a + b
  | .sub => a - b
  | .mul => a * b
theorem op_ok (o : Op) : PyData.strOk o.str = true := by cases o <;> decide +kernel
theorem sgn_ok (b : Bool) : PyData.strOk (if b then "-" else "+") = true := by cases b <;> decide +kernel
theorem plus_ok : PyData.strOk "+" = true := by decide +kernel
theorem minus_ok : PyData.strOk "-" = true := by decide +kernel
theorem sub_ne_add : (("-" : Str) = "+") = False := by simp; decide +kernel
theorem add_ne_sub : (("+" : Str) = "-") = False := by simp; decide +kernel
theorem mul_ne_add : (("*" : Str) = "+") = False := by simp; decide +kernel
theorem mul_ne_sub : (("*" : Str) = "-") = False := by simp; decide +kernel
theorem star_ok : PyData.strOk "*" = true := by decide +kernel
structure Ins where
  reg : Nat
  neg : Bool
  op : Op
  l : Src
  r : Src
def Ins.sgn (i : Ins) : Str := if i.neg then "-" else "+"
def Ins.d (i : Ins) : PyData := .tuple [.int i.reg, .str i.sgn, .str i.op.str, .str i.l.str, .str i.r.str]
structure Ins.ok (n : Nat) (i : Ins) : Prop where
  reg : i.reg < 8
  l : i.l.ok n
  r : i.r.ok n
/-- what an instruction does -/
def Ins.do (m : Int) (ins regs : List Int) (i : Ins) : List Int :=
  let v := i.op.ap (i.l.val ins regs) (i.r.val ins regs)
  regs.set i.reg ((if i.neg then regs.getD i.reg 0 - v else regs.getD i.reg 0 + v) % m)
/-- contents below the modulus -/
structure Regs (m : Int) (xs : List Int) : Prop where
  all : ∀ x ∈ xs, 0 ≤ x ∧ x < m
theorem Regs.at {m : Int} {xs : List Int} (h : Regs m xs) (i : Nat) (hm : 0 < m) : 0 ≤ xs.getD i 0 ∧ xs.getD i 0 < m := by
  by_cases hi : i < xs.length
  · have : xs.getD i 0 = xs[i] := by simp [hi]
    rw [this]; exact h.all _ (List.getElem_mem hi)
  · have : xs.getD i 0 = 0 := by simp [hi]
    omega
theorem Src.bound {m : Int} {ins regs : List Int} (hm : 0 < m) (h1 : Regs m ins) (h2 : Regs m regs) {n : Nat} {s : Src} (ho : s.ok n) : (s.val ins regs).natAbs < 100000 + m.natAbs := by
  cases s with
  | x i => have := h1.at i hm; show (ins.getD i 0).natAbs < _; omega
  | r i => have := h2.at i hm; show (regs.getD i 0).natAbs < _; omega
  | c k => have : k < 100000 := ho; show ((k : Int)).natAbs < _; omega
theorem Ls.arg {a : RV} {xs : List Int} (h : Ls a xs) : a.bor.arg = a := by rcases h with rfl | rfl <;> rfl
theorem Ls.list {a : RV} {xs : List Int} (h : Ls a xs) : gListC [a.bor] = .ok (.ol (xs.map .int)) := by rcases h with rfl | rfl <;> rfl
def progD (m n : Int) (st out : PyData) : PyData := .tuple [.int m, .int n, st, out]
theorem ixN_nat {n i : Nat} (h : i < n) : ixN n (i : Int) = some i := by
  unfold ixN
  rw [if_pos (by omega), if_pos (by omega)]
  rfl
theorem map_set_int (xs : List Int) (i : Nat) (v : Int) : (xs.map PyData.int).set i (.int v) = (xs.set i v).map .int := by rw [List.map_set]
theorem src_val (s : Src) {n : Nat} (ho : s.ok n) {a b : RV} {ins regs : List Int} (ha : Ls a ins) (hb : Ls b regs) (hi : ins.length = n) (hr : regs.length = 8) : F_source_value [.d (.str s.str), a, b] = .ok (.d (.int (s.val ins regs))) := by
  show (sSeq _ _ [some (.d (.str s.str)), some a, some b]).fin = _
  cases s with
  | x i =>
    obtain ⟨h1, h2⟩ := ho
    have e1 := head_x i h2 "x" letx_ok
    have e2 := ha.ix (i := i) (by omega)
    have e3 := lx_tail let_x h2
    have e4 := int_ok h2
    simp only [e_seq, e_if, e_cB, e_c2, e_V, List.getElem?_cons_zero, List.getElem?_cons_succ, Rs.bind_ok, e_bor1, e_cC, Src.str, e1, decide_true, e_asB, Rs.out_ok, if_true, e_ret, e_cA, e_aC, e_aN, e_sl, oS, e_oN, e3, e4, e2]
    rfl
  | r i =>
    have h2 : i < 100000 := by have : i < 8 := ho; omega
    have e1 := head_r i h2 "x" letx_ok
    have e1' := head_r i h2 "r" letr_ok
    have e2 := hb.ix (i := i) (by have : i < 8 := ho; omega)
    have e3 := lx_tail let_r h2
    have e4 := int_ok h2
    simp only [e_seq, e_if, e_cB, e_c2, e_V, List.getElem?_cons_zero, List.getElem?_cons_succ, Rs.bind_ok, e_bor1, e_cC, Src.str, e1, e1', decide_true, e_asB, Rs.out_ok, if_true, e_ret, e_cA, e_aC, e_aN, e_sl, oS, e_oN, e3, e4, e2, r_ne_x, decide_false, Bool.false_eq_true, if_false, e_nil, Out.then_nx]
    rfl
  | c k =>
    have h2 : k < 100000 := ho
    have e1 := head_c k h2 let_x (by decide) letx_ok
    have e1' := head_c k h2 let_r (by decide) letr_ok
    have e4 := int_ok h2
    simp only [e_seq, e_if, e_cB, e_c2, e_V, List.getElem?_cons_zero, List.getElem?_cons_succ, Rs.bind_ok, e_bor1, e_cC, Src.str, e1, e1', e_asB, Rs.out_ok, e_ret, e_cA, e_aC, e_aN, e4, Bool.false_eq_true, if_false, e_nil, Out.then_nx]
    rfl
theorem result_of_ok (o : Op) (a b : Int) (ha : a.natAbs < 18446744073709551616) : F_result_of [.d (.str o.str), .d (.int a), .d (.int b)] = .ok (.d (.int (o.ap a b))) := by
  show (sSeq _ _ [some (.d (.str o.str)), some (.d (.int a)), some (.d (.int b))]).fin = _
  cases o <;> simp [Op.str, Op.ap, e_V, sh_str plus_ok, sh_str minus_ok, sh_str star_ok, sub_ne_add, mul_ne_add, mul_ne_sub, ha]
theorem performed_ok {m n : Int} {st out : PyData} (hm : 0 < m) (hm2 : m ≤ 1000) (i : Ins) {k : Nat} (ho : i.ok k) {a b : RV} {ins regs : List Int} (ha : Ls a ins) (hb : Ls b regs) (hi : ins.length = k) (hr : regs.length = 8) (h1 : Regs m ins) (h2 : Regs m regs) :
    F_performed [.d (progD m n st out), .d i.d, a, b] = .ok (.ol ((i.do m ins regs).map .int)) := by
  have e1 := src_val i.l ho.l ha hb hi hr
  have e2 := src_val i.r ho.r ha hb hi hr
  have e3 := result_of_ok i.op (i.l.val ins regs) (i.r.val ins regs) (by have := Src.bound hm h1 h2 ho.l; omega)
  have hx : gIx (.bl (regs.map .int)) (.d (.int i.reg)) = .ok (.d (.int (regs.getD i.reg 0))) := Ls.ix (.inr rfl) (by have := ho.reg; omega)
  have hn : ixN (regs.map PyData.int).length (i.reg : Int) = some i.reg := ixN_nat (by have := ho.reg; simp; omega)
  show (sSeq _ _ [some (.d (progD m n st out)), some (.d i.d), some a, some b, none, none, none, none, none, none, none]).fin = _
  have s0 : sUnp (.tp [4, 5, 6, 7, 8]) (cV 1) [some (.d (progD m n st out)), some (.d i.d), some a, some b, none, none, none, none, none, none, none] = .nx [some (.d (progD m n st out)), some (.d i.d), some a, some b, some (.d (.int i.reg)), some (.d (.str i.sgn)), some (.d (.str i.op.str)), some (.d (.str i.l.str)), some (.d (.str i.r.str)), none, none] := by
    simp [e_unp, e_V, Ins.d]
  rw [e_seq, s0, Out.then_nx]
  simp only [e_seq, e_set, e_cA, e_aC, e_aN, e_V, List.getElem?_cons_zero, List.getElem?_cons_succ, Rs.bind_ok, e_bor1, List.length_cons, List.length_nil, Nat.reduceAdd, if_true, List.map_cons, List.map_nil, e_arg1, ha.arg, hb.arg, e1, e2, e3, Rs.out_ok, e_putd, Nat.reduceLT, List.set_cons_succ, List.set_cons_zero, Out.then_nx, hb.list, e_puto]
  have hp : gIx (.d (progD m n st out)) (.d (.int 0)) = .ok (.d (.int m)) := rfl
  have hdo : regs.set i.reg ((if i.neg then regs.getD i.reg 0 - i.op.ap (i.l.val ins regs) (i.r.val ins regs) else regs.getD i.reg 0 + i.op.ap (i.l.val ins regs) (i.r.val ins regs)) % m) = i.do m ins regs := rfl
  generalize i.op.ap (i.l.val ins regs) (i.r.val ins regs) = v at hdo ⊢
  generalize regs.getD i.reg 0 = c at hx hdo ⊢
  cases hg : i.neg with
  | false =>
    rw [hg, if_neg Bool.false_ne_true] at hdo
    have hs : i.sgn = "+" := by simp [Ins.sgn, hg]
    simp only [e_if, e_cB, e_c2, e_V, List.getElem?_cons_zero, List.getElem?_cons_succ, Rs.bind_ok, e_bor1, e_bor2, e_cC, hs, e_eq, e_data1, rsO_some, sh_str plus_ok, and_self, if_true, eqv_str, decide_true, e_okB, e_asB, Rs.out_ok, e_store, hx, e_addI, hp, e_mod, hm, e_toD1, hn, Out.then_nx, e_retV, e_nb2, fin_rt, List.set_cons_succ, List.set_cons_zero, map_set_int, hdo]
  | true =>
    rw [hg, if_pos rfl] at hdo
    have hs : i.sgn = "-" := by simp [Ins.sgn, hg]
    simp only [e_if, e_cB, e_c2, e_V, List.getElem?_cons_zero, List.getElem?_cons_succ, Rs.bind_ok, e_bor1, e_bor2, e_cC, hs, e_eq, e_data1, rsO_some, sh_str plus_ok, sh_str minus_ok, and_self, if_true, eqv_str, sub_ne_add, decide_false, Bool.false_eq_true, if_false, e_okB, e_asB, Rs.out_ok, e_store, hx, e_sub, hp, e_mod, hm, e_toD1, hn, Out.then_nx, e_retV, e_nb2, fin_rt, List.set_cons_succ, List.set_cons_zero, map_set_int, hdo]
theorem Ins.do_len (m : Int) (ins regs : List Int) (i : Ins) : (i.do m ins regs).length = regs.length := by simp [Ins.do]
theorem Ins.do_regs {m : Int} (hm : 0 < m) {ins regs : List Int} (h : Regs m regs) (i : Ins) : Regs m (i.do m ins regs) := ⟨fun x hx => by
  rcases List.mem_or_eq_of_mem_set hx with z | rfl
  · exact h.all x z
  · exact ⟨Int.emod_nonneg _ (by omega), Int.emod_lt_of_pos _ hm⟩⟩
/-- code run -/
def runM (m : Int) (ins : List Int) (code : List Ins) (regs : List Int) : List Int := code.foldl (fun rs i => i.do m ins rs) regs
theorem Ls.gA {a : RV} {xs : List Int} (h : Ls a xs) : True := trivial
/-! ### drawn programs -/
inductive Opd where
  | x (i : Nat) | s (k : Nat) | c (v : Nat)
def Opd.str : Opd → Str
  | .x i => lx "x" i
  | .s k => lx "s" k
  | .c v => numS v
/-- n inputs, many steps before, the modulus m -/
def Opd.ok (n many m : Nat) : Opd → Prop
  | .x i => i < n
  | .s k => k < many
  | .c v => v < m
theorem Opd.strOk (o : Opd) : PyData.strOk o.str = true := by
  cases o with
  | x i => exact lx_strOk let_x (by decide) i
  | s k => exact lx_strOk let_s (by decide) k
  | c v => exact num_strOk v
theorem str_len1 {c : Str} {k : Nat} (h : Letter c k) {n : Nat} (hn : n < 100000) : c.length + (numS n).length ≤ 1000000 := by
  have := h.len; have := num_len hn; omega
theorem add_lx {c : Str} {k : Nat} (h : Letter c k) {n : Nat} (hn : n < 100000) : gAdd (.d (.str c)) (.d (.str (numS n))) = .ok (.d (.str (lx c n))) := by
  rw [e_addS, if_pos (str_len1 h hn)]
  rfl
/-! ### rows of digits -/
theorem cut_row (ds : List Int) (a b : Nat) (h : a ≤ b) (h2 : b ≤ ds.length) : gSl (.bl (ds.map .int)) (some (a : Int)) (some (b : Int)) = .ok (.ol (((ds.drop a).take (b - a)).map .int)) := by
  show Rs.ok (RV.ol (cutL (ds.map .int) (some (a : Int)) (some (b : Int)))) = _
  unfold cutL
  rw [HT.sIx_nat, HT.sIx_nat, List.length_map, Nat.min_eq_left h2, Nat.min_eq_left (show a ≤ ds.length by omega), ← List.map_drop, ← List.map_take]
/-- the signs -/
def opN : Nat → Op
  | 0 => .add
  | 1 => .sub
  | _ => .mul
theorem ops_ix (r : Nat) (h : r < 3) : gIx (.d (.str "+-*")) (.d (.int r)) = .ok (.d (.str (opN r).str)) := by
  have key : ∀ (r : Nat) (c : Nat) (s : Str), (("+-*" : Str).length ≤ 1000000) → atI ("+-*" : Str).cps.toList (r : Int) = some c → s = ⟨#[c]⟩ → gIx (.d (.str "+-*")) (.d (.int r)) = .ok (.d (.str s)) := fun r c s h1 h2 h3 => by
    rw [e_ixS, if_pos h1, h2, h3]; rfl
  match r, h with
  | 0, _ => exact key 0 43 _ (by decide +kernel) (by decide +kernel) (by decide +kernel)
  | 1, _ => exact key 1 45 _ (by decide +kernel) (by decide +kernel) (by decide +kernel)
  | 2, _ => exact key 2 42 _ (by decide +kernel) (by decide +kernel) (by decide +kernel)
theorem sgn_ix (r : Nat) (h : r < 2) : gIx (.d (.str "+-")) (.d (.int r)) = .ok (.d (.str (if decide (r = 1) then "-" else "+"))) := by
  have key : ∀ (r : Nat) (c : Nat) (s : Str), (("+-" : Str).length ≤ 1000000) → atI ("+-" : Str).cps.toList (r : Int) = some c → s = ⟨#[c]⟩ → gIx (.d (.str "+-")) (.d (.int r)) = .ok (.d (.str s)) := fun r c s h1 h2 h3 => by
    rw [e_ixS, if_pos h1, h2, h3]; rfl
  match r, h with
  | 0, _ => exact key 0 43 _ (by decide +kernel) (by decide +kernel) (by decide +kernel)
  | 1, _ => exact key 1 45 _ (by decide +kernel) (by decide +kernel) (by decide +kernel)
theorem take5 {l : List Nat} {a r0 r1 r2 r3 r4 : Nat} (h0 : l[a]? = some r0) (h1 : l[a + 1]? = some r1) (h2 : l[a + 2]? = some r2) (h3 : l[a + 3]? = some r3) (h4 : l[a + 4]? = some r4) : (l.drop a).take 5 = [r0, r1, r2, r3, r4] := by
  rw [drop_cons h0, drop_cons h1, drop_cons h2, drop_cons h3, drop_cons h4]; rfl
theorem take7 {l : List Nat} {a r0 r1 r2 r3 r4 r5 r6 : Nat} (h0 : l[a]? = some r0) (h1 : l[a + 1]? = some r1) (h2 : l[a + 2]? = some r2) (h3 : l[a + 3]? = some r3) (h4 : l[a + 4]? = some r4) (h5 : l[a + 5]? = some r5) (h6 : l[a + 6]? = some r6) : (l.drop a).take 7 = [r0, r1, r2, r3, r4, r5, r6] := by
  rw [drop_cons h0, drop_cons h1, drop_cons h2, drop_cons h3, drop_cons h4, drop_cons h5, drop_cons h6]; rfl
theorem cut_rowN (ds : List Nat) (a b : Nat) (h : a ≤ b) (h2 : b ≤ ds.length) : gSl (.bl (ds.map natI)) (some (a : Int)) (some (b : Int)) = .ok (.ol (((ds.drop a).take (b - a)).map natI)) := by
  show Rs.ok (RV.ol (cutL (ds.map natI) (some (a : Int)) (some (b : Int)))) = _
  unfold cutL
  rw [HT.sIx_nat, HT.sIx_nat, List.length_map, Nat.min_eq_left h2, Nat.min_eq_left (show a ≤ ds.length by omega), ← List.map_drop, ← List.map_take]
theorem rep_one (n : Nat) (x : Nat) : (List.replicate n [natI x]).flatten = (List.replicate n x).map natI := by
  induction n with
  | zero => rfl
  | succ n ih => rw [List.replicate_succ, List.flatten_cons, ih, List.replicate_succ, List.map_cons]; rfl
/-- a step of a program -/
structure Stp where
  op : Op
  l : Opd
  r : Opd
def Stp.d (s : Stp) : PyData := .tuple [.str s.op.str, .str s.l.str, .str s.r.str]
theorem Stp.nice (s : Stp) : Nice 1 s.d := Nice.tup fun d hd => by
  simp at hd
  rcases hd with rfl | rfl | rfl
  · exact Nice.str 0 (op_ok _)
  · exact Nice.str 0 (Opd.strOk _)
  · exact Nice.str 0 (Opd.strOk _)
theorem stps_nice (ss : List Stp) : Nice 2 (.list (ss.map Stp.d)) := Nice.lst fun d hd => by
  obtain ⟨s, _, rfl⟩ := List.mem_map.mp hd
  exact s.nice
/-- steps, each with operands that are there -/
def StpsOk (m n : Nat) (ss : List Stp) : Prop := ∀ (k : Nat) (s : Stp), ss[k]? = some s → s.l.ok n k m ∧ s.r.ok n k m
theorem Opd.mono {n a b m : Nat} (h : a ≤ b) : ∀ {o : Opd}, o.ok n a m → o.ok n b m
  | .x _, h' => h'
  | .s _, h' => Nat.lt_of_lt_of_le h' h
  | .c _, h' => h'
/-- the outputs: ascending places of steps, the last step among them -/
structure OutsOk (k : Nat) (os : List Nat) : Prop where
  up : os.Pairwise (· < ·)
  hi : ∀ o ∈ os, o < k
  last : k - 1 ∈ os
theorem nat_any (os : List Nat) (k : Nat) : ((os.map natI).any fun z => PyData.eqv z (.int k)) = decide (k ∈ os) := by
  rw [List.any_map]
  induction os with
  | nil => rfl
  | cons o os ih =>
    rw [List.any_cons, ih]
    simp only [Function.comp, natI, eqv_int, List.mem_cons]
    by_cases h : k = o
    · simp [h]
    · by_cases h2 : k ∈ os
      · simp [h2]
      · simp [h2, h]; omega
theorem sh_natsL (os : List Nat) : SeqAt.shaped (.list (os.map natI)) = true := by
  have := sh_lst (os.map fun n : Nat => (n : Int))
  rwa [List.map_map] at this
theorem sh_natsT (os : List Nat) : SeqAt.shaped (.tuple (os.map natI)) = true := by
  have := sh_tup (os.map fun n : Nat => (n : Int))
  rwa [List.map_map] at this
theorem StpsOk.snoc {m n : Nat} {ss : List Stp} (h : StpsOk m n ss) {s : Stp} (hl : s.l.ok n ss.length m) (hr : s.r.ok n ss.length m) : StpsOk m n (ss ++ [s]) := by
  intro k s' hk
  rcases Nat.lt_trichotomy k ss.length with h' | h' | h'
  · exact h k s' (by rwa [List.getElem?_append_left h'] at hk)
  · subst h'
    rw [List.getElem?_append_right (Nat.le_refl _), Nat.sub_self] at hk
    cases hk
    exact ⟨hl, hr⟩
  · rw [List.getElem?_eq_none (by simp; omega)] at hk
    cases hk
theorem operand_ok (kind a m n many : Nat) (hm : 0 < m) (hm2 : m < 100000) (hn : 0 < n) (hn2 : n < 100000) (hy : many < 100000) : ∃ o : Opd, F__law_operand [.d (.int kind), .d (.int a), .d (.int m), .d (.int n), .d (.int many)] = .ok (.d (.str o.str)) ∧ o.ok n many m := by
  have b1 : a % n < 100000 := Nat.lt_trans (Nat.mod_lt a hn) hn2
  have b2 : a % m < 100000 := Nat.lt_trans (Nat.mod_lt a hm) hm2
  have c1 := str_ok b1
  have c2' := str_ok b2
  have m1 := e_modN a n hn
  have m2 := e_modN a m hm
  by_cases k0 : (kind : Int) = 0
  · refine ⟨.x (a % n), ?_, Nat.mod_lt a hn⟩
    show (sSeq _ _ [some (.d (.int kind)), some (.d (.int a)), some (.d (.int m)), some (.d (.int n)), some (.d (.int many))]).fin = _
    simp only [e_seq, e_if, e_cB, e_c2, e_V, List.getElem?_cons_zero, List.getElem?_cons_succ, Rs.bind_ok, e_bor1, e_cC, e_eq, e_data1, rsO_some, sh_int, and_self, if_true, eqv_int, decide_eq_true k0, e_okB, e_asB, Rs.out_ok, e_ret, e_cA, e_aC, e_aN, m1, c1, add_lx let_x b1, e_nb1, Out.then_rt, fin_rt]
    rfl
  · by_cases k1 : (kind : Int) = 1
    · refine ⟨.c (a % m), ?_, Nat.mod_lt a hm⟩
      show (sSeq _ _ [some (.d (.int kind)), some (.d (.int a)), some (.d (.int m)), some (.d (.int n)), some (.d (.int many))]).fin = _
      simp only [e_seq, e_if, e_bOr, e_cB, e_c2, e_V, List.getElem?_cons_zero, List.getElem?_cons_succ, Rs.bind_ok, e_bor1, e_cC, e_eq, e_data1, rsO_some, sh_int, and_self, if_true, eqv_int, decide_eq_false k0, decide_eq_true k1, Bool.false_eq_true, if_false, e_nil, Out.then_nx, e_okB, e_asB, Rs.out_ok, e_ret, e_cA, e_aC, e_aN, m2, c2', e_nb1, Out.then_rt, fin_rt]
      rfl
    · by_cases k2 : (many : Int) = 0
      · refine ⟨.c (a % m), ?_, Nat.mod_lt a hm⟩
        show (sSeq _ _ [some (.d (.int kind)), some (.d (.int a)), some (.d (.int m)), some (.d (.int n)), some (.d (.int many))]).fin = _
        simp only [e_seq, e_if, e_bOr, e_cB, e_c2, e_V, List.getElem?_cons_zero, List.getElem?_cons_succ, Rs.bind_ok, e_bor1, e_cC, e_eq, e_data1, rsO_some, sh_int, and_self, if_true, eqv_int, decide_eq_false k0, decide_eq_false k1, decide_eq_true k2, Bool.false_eq_true, if_false, e_nil, Out.then_nx, e_okB, e_asB, Rs.out_ok, e_ret, e_cA, e_aC, e_aN, m2, c2', e_nb1, Out.then_rt, fin_rt]
        rfl
      · have hp : 0 < many := by omega
        have m3 := e_modN a many hp
        have hlt := Nat.mod_lt a hp
        have b3 : many - 1 - a % many < 100000 := by omega
        have c3 := str_ok b3
        have e3 : (many : Int) - 1 - ((a % many : Nat) : Int) = ((many - 1 - a % many : Nat) : Int) := by omega
        refine ⟨.s (many - 1 - a % many), ?_, show _ < many by omega⟩
        show (sSeq _ _ [some (.d (.int kind)), some (.d (.int a)), some (.d (.int m)), some (.d (.int n)), some (.d (.int many))]).fin = _
        simp only [e_seq, e_if, e_bOr, e_cB, e_c2, e_V, List.getElem?_cons_zero, List.getElem?_cons_succ, Rs.bind_ok, e_bor1, e_cC, e_eq, e_data1, rsO_some, sh_int, and_self, if_true, eqv_int, decide_eq_false k0, decide_eq_false k1, decide_eq_false k2, Bool.false_eq_true, if_false, e_nil, Out.then_nx, e_okB, e_asB, Rs.out_ok, e_ret, e_cA, e_aC, e_aN, m3, e_sub, e3, c3, add_lx let_s b3, e_nb1, fin_rt]
        rfl
/-- the sizes of a drawn program -/
def szP (most : Nat) : List Nat := [12, 2, most, 3, 4, 13, 4, 13, 3, 4, 13, 4, 13, 3, 4, 13, 4, 13, 3, 4, 13, 4, 13, 3, 4, 13, 4, 13, 3, 4, 13, 4, 13, 3, 4, 13, 4, 13, 3, 3, 3, 3, 3, 3, 3, 3]
theorem szP_row (most j : Nat) (hj : j < 7) : (szP most)[3 + 5 * j]? = some 3 ∧ (szP most)[3 + 5 * j + 1]? = some 4 ∧ (szP most)[3 + 5 * j + 2]? = some 13 ∧ (szP most)[3 + 5 * j + 3]? = some 4 ∧ (szP most)[3 + 5 * j + 4]? = some 13 := by
  have : j = 0 ∨ j = 1 ∨ j = 2 ∨ j = 3 ∨ j = 4 ∨ j = 5 ∨ j = 6 := by omega
  rcases this with rfl | rfl | rfl | rfl | rfl | rfl | rfl <;> exact ⟨rfl, rfl, rfl, rfl, rfl⟩
theorem szP_last (most j : Nat) (hj : j < 8) : (szP most)[38 + j]? = some 3 := by
  have : j = 0 ∨ j = 1 ∨ j = 2 ∨ j = 3 ∨ j = 4 ∨ j = 5 ∨ j = 6 ∨ j = 7 := by omega
  rcases this with rfl | rfl | rfl | rfl | rfl | rfl | rfl | rfl <;> rfl
theorem prog_loop (a b c : Option RV) (nd : List Nat) (most m n cnt : Nat) (hd : nd.length = 46) (hb : ∀ (i s : Nat), (szP most)[i]? = some s → ∃ d, nd[i]? = some d ∧ d < s) (hc : cnt ≤ 7) (hm : 0 < m) (hm2 : m ≤ 1000) (hn : 0 < n) (hn2 : n ≤ 10) (j7 j8 j9 j10 j11 : Option RV) :
    ∃ ss j7' j8' j9' j10', loopF (.nm 7) L0__law_program ((List.range cnt).map natI) [a, b, c, some (.ol (nd.map natI)), some (.d (natI m)), some (.d (natI n)), some (.ol []), j7, j8, j9, j10, j11]
      = .nx [a, b, c, some (.ol (nd.map natI)), some (.d (natI m)), some (.d (natI n)), some (.ol (ss.map Stp.d)), j7', j8', j9', j10', j11] ∧ StpsOk m n ss ∧ ss.length ≤ cnt ∧ (1 ≤ cnt → 1 ≤ ss.length) := by
  obtain ⟨env', e1, ss, j7', j8', j9', j10', rfl, h1, h2, h3⟩ := loopF_ex (tg := .nm 7) (f := L0__law_program) (fun i env => ∃ ss j7 j8 j9 j10, env = [a, b, c, some (.ol (nd.map natI)), some (.d (natI m)), some (.d (natI n)), some (.ol (ss.map Stp.d)), j7, j8, j9, j10, j11] ∧ StpsOk m n ss ∧ ss.length ≤ i ∧ (1 ≤ i → 1 ≤ ss.length)) natI (List.range cnt)
    [a, b, c, some (.ol (nd.map natI)), some (.d (natI m)), some (.d (natI n)), some (.ol []), j7, j8, j9, j10, j11] (by
      rintro i env x hx ⟨ss, j7, j8, j9, j10, rfl, h1, h2, h3⟩
      have hi : i < cnt := by simpa using (List.getElem?_eq_some_iff.mp hx).1
      have ex : x = i := by rw [List.getElem?_range hi] at hx; exact (Option.some.inj hx).symm
      subst ex
      obtain ⟨z0, z1, z2, z3, z4⟩ := szP_row most x (by omega)
      obtain ⟨r0, q0, b0⟩ := hb _ _ z0
      obtain ⟨r1, q1, b1⟩ := hb _ _ z1
      obtain ⟨r2, q2, b2⟩ := hb _ _ z2
      obtain ⟨r3, q3, b3⟩ := hb _ _ z3
      obtain ⟨r4, q4, b4⟩ := hb _ _ z4
      have hrow : gSl (.bl (nd.map natI)) (some (3 + 5 * (x : Int))) (some (8 + 5 * (x : Int))) = .ok (.ol ([r0, r1, r2, r3, r4].map natI)) := by
        have := cut_rowN nd (3 + 5 * x) (8 + 5 * x) (by omega) (by omega)
        rw [show 8 + 5 * x - (3 + 5 * x) = 5 by omega, take5 q0 q1 q2 q3 q4] at this
        simpa using this
      obtain ⟨o1, f1, v1⟩ := operand_ok r1 r2 m n ss.length hm (by omega) hn (by omega) (by omega)
      obtain ⟨o2, f2, v2⟩ := operand_ok r3 r4 m n ss.length hm (by omega) hn (by omega) (by omega)
      have hop := ops_ix r0 b0
      have mulOk : (5 : Int).natAbs < 18446744073709551616 ∨ ((x : Int)).natAbs < 18446744073709551616 := .inl (by decide)
      let E := fun (ss' : List Stp) => [a, b, c, some (RV.ol (nd.map natI)), some (.d (natI m)), some (.d (natI n)), some (.ol (ss'.map Stp.d)), some (.d (natI x)), some (.ol ([r0, r1, r2, r3, r4].map natI)), some (.d (.str o1.str)), some (.d (.str o2.str)), j11]
      have hstep : ∃ t : Bool, L0__law_program [a, b, c, some (.ol (nd.map natI)), some (.d (natI m)), some (.d (natI n)), some (.ol (ss.map Stp.d)), some (.d (natI x)), j8, j9, j10, j11] = .nx (E (if t then ss ++ [⟨opN r0, o1, o2⟩] else ss)) ∧ (ss = [] → t = true) := by
        have sh1 : SeqAt.shaped (.tuple [.str (opN r0).str, .str o1.str, .str o2.str]) = true := (Stp.nice ⟨opN r0, o1, o2⟩).shaped (by decide)
        have sh2 : SeqAt.shaped (.list (ss.map Stp.d)) = true := (stps_nice ss).shaped (by decide)
        have hz : ss.length ≤ 1000000 := by omega
        obtain ⟨t, ht⟩ : ∃ t : Bool, t = !((ss.map Stp.d).any fun z => PyData.eqv z (.tuple [.str (opN r0).str, .str o1.str, .str o2.str])) := ⟨_, rfl⟩
        refine ⟨t, ?_, fun e => by rw [ht, e]; rfl⟩
        unfold L0__law_program
        simp only [List.map_cons, List.map_nil, natI] at hrow
        simp only [e_nil, e_seq, e_fz, e_bk, e_ct, e_ret, e_retN, e_drop, e_set, e_if, e_for, e_cC, e_c2, e_c1, e_cA, e_aN, e_aC, e_cB, e_asB, e_bNot, e_bAnd, e_bOr, e_vAnd, e_vOr, e_vNot, e_vIf, e_bYes, e_iL, e_iT, e_iLb, e_iR, e_gL1, e_gL2, e_gL3, e_gT, e_gLb1, e_gLb2, e_gLb3, e_gLb4, e_nb1, e_nb2, e_bor1, e_bor2, e_bor3, e_bor4, e_arg1, e_arg2, e_arg3, e_arg4, e_putd, e_puto, e_toD1, e_toD2, e_allD0, e_allD1, e_allD2, e_gTupl, e_gList, e_tgnm, e_tgtp, e_tg0, e_tg1, e_sq1, e_sq2, e_sq3, e_sq4, e_sq5, e_qv2, e_qv3, e_qv4, e_qv5, e_data1, e_data2, e_data3, e_okI, e_okB, e_i2, e_sub, e_mul, e_mod, e_div, e_pow, e_lt, e_le, e_gt, e_ge, e_neg, e_addI, e_addS, e_addT, e_addL1, e_addL2, e_addL3, e_addL4, e_addL5, e_addL6, e_addL7, e_addL8, e_addL9, e_eq, e_ne, e_in, e_notIn, e_inT, e_inT2, e_inL1, e_inL2, e_inL3, e_is, e_isNot, e_isN1, e_isN2, e_isN3, e_isN4, e_isN5, e_isN6, e_isN7, e_ixT, e_ixL, e_ixO, e_ixB, e_ixSc, e_lenT, e_lenL, e_lenO, e_lenB, e_lenSc, e_lenS, e_tupT, e_tupL, e_tupO, e_tupB, e_lisT, e_lisL, e_lisO, e_lisB, e_min2, e_max2, e_any, e_all, e_sum, e_sorted, e_rev, e_sl, e_oN, e_isi, e_lc, e_wipe0, e_wipe1, e_iA, e_iAb, e_gAq1, e_gAq2, e_gAq3, e_gAqb1, e_gAqb2, e_gAqb3, e_gAqb4, e_no, e_cCh, e_cChI, e_aug, e_decT, e_decF, e_cDispS, e_cDT, e_cDK, e_cDisp1, e_storeA, e_stR1, e_stR2, e_stR3, e_sd1, e_keyD1, e_keyD2, e_keyTD, e_intsD, e_intsD0, e_borT, e_borT2, e_borK, e_borK2, e_argT, e_argT2, e_argK, e_argK2, e_nbT, e_nbK, e_putT, e_putK, e_gAt1, e_gAt2, e_gAt3, e_gAt4, e_gGetDK, e_gGetDT, e_gIxD, e_gInD, e_gNotInD, e_cGet1, e_cGet2, e_dk1, e_dk2, e_dk3, e_dk4, e_dt1, e_dt2, e_del, atI_zero, e_at1, e_at2, e_at3, e_at4, e_at5, e_at6, e_at7, e_at8, e_at9, e_atm, e_V, e_retV, e_unp, e_app, e_store, e_fzE, oS, rsO_some, Rs.bind_ok, Rs.bind_no, Rs.out_ok, Out.then_nx, Out.then_rt, Out.then_ct, Out.then_bk, fin_rt, fin_nx, List.getElem?_cons_zero, List.getElem?_cons_succ, List.set_cons_succ, List.set_cons_zero, List.length_cons, List.length_nil, Nat.reduceAdd, Nat.reduceLT, Nat.reduceLeDiff, Nat.reduceEqDiff, if_true, if_false, Bool.false_eq_true, Bool.not_true, Bool.not_false, and_self, true_and, and_true, List.map_cons, List.map_nil, Option.map_some, sh_int, sh_bool, sh_none, sh_tup, sh_lst, eqv_int, reduceIte, Option.bind_some, Option.bind_none, kitB_ll, kitB_lt, kitB_tt, kitB_tl, kitB_ii, tyD_list, tyD_int, Bool.true_and, Bool.false_and, Bool.and_true, Bool.and_false, Bool.or_true, Bool.true_or, Bool.false_or, Bool.or_false, Bool.and_self, Bool.or_self, e_cAK, List.append_nil, e_andB, e_orB, e_andR, e_orR, tyD_tuple, eqv_bool, eqv_none, tyD_bool, tyD_str, tyD_none, kitB_bb, kitB_nb, kitB_bi, kitB_ib, kitB_nl, kitB_nt, beq_self_eq_true, natI, if_pos mulOk, hrow, List.length_map, f1, f2, hop, sh1, sh2, if_pos hz, ← ht]
        cases t with
        | true =>
          simp only [if_true]
          rw [show E (ss ++ [⟨opN r0, o1, o2⟩]) = [a, b, c, some (RV.ol (nd.map natI)), some (.d (natI m)), some (.d (natI n)), some (.ol (ss.map Stp.d ++ [Stp.d ⟨opN r0, o1, o2⟩])), some (.d (natI x)), some (.ol ([r0, r1, r2, r3, r4].map natI)), some (.d (.str o1.str)), some (.d (.str o2.str)), j11] by simp only [E, List.map_append, List.map_cons, List.map_nil]]
          rfl
        | false => rfl
      obtain ⟨t, e1, ht⟩ := hstep
      refine ⟨[a, b, c, some (.ol (nd.map natI)), some (.d (natI m)), some (.d (natI n)), some (.ol (ss.map Stp.d)), some (.d (natI x)), j8, j9, j10, j11], rfl, E (if t then ss ++ [⟨opN r0, o1, o2⟩] else ss), .inl e1, (if t then ss ++ [⟨opN r0, o1, o2⟩] else ss), _, _, _, _, rfl, ?_, ?_, fun _ => ?_⟩
      · cases t with
        | false => exact h1
        | true =>
          intro k s hk
          rw [if_pos rfl] at hk
          rcases Nat.lt_trichotomy k ss.length with h | h | h
          · exact h1 k s (by rwa [List.getElem?_append_left h] at hk)
          · subst h
            rw [List.getElem?_append_right (Nat.le_refl _), Nat.sub_self] at hk
            cases hk
            exact ⟨v1, v2⟩
          · rw [List.getElem?_eq_none (by simp; omega)] at hk
            cases hk
      · cases t <;> simp <;> omega
      · cases t with
        | false =>
          show 1 ≤ ss.length
          exact Nat.lt_of_not_le fun h => Bool.false_ne_true (ht (List.eq_nil_of_length_eq_zero (by omega)))
        | true => simp) ⟨[], j7, j8, j9, j10, rfl, fun k s h => by simp at h, by simp, by simp⟩
  rw [List.length_range] at h2 h3
  exact ⟨ss, j7', j8', j9', j10', e1, h1, h2, h3⟩
theorem sizes_prog (most : Nat) : [PyData.int 12, .int 2, .int (most : Int)] ++ (List.replicate (7 : Int).toNat [PyData.int 3, .int 4, .int 13, .int 4, .int 13]).flatten ++ (List.replicate (8 : Int).toNat [PyData.int 3]).flatten = (szP most).map natI := rfl
theorem program_ok (ns : List Int) (k most : Nat) (h1 : 1 ≤ most) (h2 : most ≤ 7) : ∃ (m n : Nat) (ss : List Stp) (os : List Nat),
    F__law_program [.sc ns, .d (.int k), .d (.int most)] = .ok (.d (progD m n (.tuple (ss.map Stp.d)) (.tuple (os.map natI)))) ∧ 2 ≤ m ∧ m ≤ 13 ∧ 1 ≤ n ∧ n ≤ 2 ∧ StpsOk m n ss ∧ 1 ≤ ss.length ∧ ss.length ≤ most ∧ OutsOk ss.length os := by
  obtain ⟨nd, e1, hl, hb⟩ := draw_nat ns k (szP most) (by
    intro s hs
    simp only [szP, List.mem_cons, List.not_mem_nil, or_false] at hs
    omega) (by simp [szP])
  obtain ⟨d0, q0, b0⟩ := hb 0 12 rfl
  obtain ⟨d1, q1, b1⟩ := hb 1 2 rfl
  obtain ⟨d2, q2, b2⟩ := hb 2 most rfl
  have a0 : atI (nd.map natI) 0 = some (.int d0) := atI_nats (i := 0) q0
  have a1 : atI (nd.map natI) 1 = some (.int d1) := atI_nats (i := 1) q1
  have a2 : atI (nd.map natI) 2 = some (.int d2) := atI_nats (i := 2) q2
  obtain ⟨ss, j7, j8, j9, j10, e2, s1, s2, s3⟩ := prog_loop (some (.sc ns)) (some (.d (.int k))) (some (.d (.int most))) nd most (2 + d0) (1 + d1) (1 + d2) hl hb (by omega) (by omega) (by omega) (by omega) (by omega) none none none none none
  have s3 := s3 (by omega)
  have hr := e_R1n (n := 1 + d2) (by omega)
  rw [rng_nat] at hr
  have hr2 := e_R1n (n := ss.length) (by omega)
  rw [rng_nat] at hr2
  obtain ⟨os0, ho⟩ : ∃ os0, os0 = (List.range ss.length).filter fun j => decide (nd[38 + j]? = some 0) := ⟨_, rfl⟩
  have hc : ∀ (e : VEnv) (r6 : Option RV), e = [some (.sc ns), some (.d (.int k)), some (.d (.int most)), some (.ol (nd.map natI)), some (.d (natI (2 + d0))), some (.d (natI (1 + d1))), r6, none, j8, j9, j10, none] → lcF (.nm 7) (cB (c2 gEq (c2 gIx (cV 3) (c2 gAdd (cC (.int 38)) (cV 7))) (cC (.int 0)))) (cV 7) e ((List.range ss.length).map natI) = .ok (os0.map natI) := by
    rintro e r6 rfl
    rw [ho]
    refine lcF_map natI (fun j => decide (nd[38 + j]? = some 0)) natI (List.range ss.length) fun x hx => ⟨_, rfl, ?_, fun _ => ⟨.d (natI x), rfl, rfl⟩⟩
    have hx' : x < 8 := by have := List.mem_range.mp hx; omega
    obtain ⟨d, qd, bd⟩ := hb (38 + x) 3 (szP_last most x hx')
    have ad : atI (nd.map natI) (38 + (x : Int)) = some (.int d) := by
      have := atI_nats qd
      rwa [Int.natCast_add] at this
    simp only [e_nil, e_seq, e_fz, e_bk, e_ct, e_ret, e_retN, e_drop, e_set, e_if, e_for, e_cC, e_c2, e_c1, e_cA, e_aN, e_aC, e_cB, e_asB, e_bNot, e_bAnd, e_bOr, e_vAnd, e_vOr, e_vNot, e_vIf, e_bYes, e_iL, e_iT, e_iLb, e_iR, e_gL1, e_gL2, e_gL3, e_gT, e_gLb1, e_gLb2, e_gLb3, e_gLb4, e_nb1, e_nb2, e_bor1, e_bor2, e_bor3, e_bor4, e_arg1, e_arg2, e_arg3, e_arg4, e_putd, e_puto, e_toD1, e_toD2, e_allD0, e_allD1, e_allD2, e_gTupl, e_gList, e_tgnm, e_tgtp, e_tg0, e_tg1, e_sq1, e_sq2, e_sq3, e_sq4, e_sq5, e_qv2, e_qv3, e_qv4, e_qv5, e_data1, e_data2, e_data3, e_okI, e_okB, e_i2, e_sub, e_mul, e_mod, e_div, e_pow, e_lt, e_le, e_gt, e_ge, e_neg, e_addI, e_addS, e_addT, e_addL1, e_addL2, e_addL3, e_addL4, e_addL5, e_addL6, e_addL7, e_addL8, e_addL9, e_eq, e_ne, e_in, e_notIn, e_inT, e_inT2, e_inL1, e_inL2, e_inL3, e_is, e_isNot, e_isN1, e_isN2, e_isN3, e_isN4, e_isN5, e_isN6, e_isN7, e_ixT, e_ixL, e_ixO, e_ixB, e_ixSc, e_lenT, e_lenL, e_lenO, e_lenB, e_lenSc, e_lenS, e_tupT, e_tupL, e_tupO, e_tupB, e_lisT, e_lisL, e_lisO, e_lisB, e_min2, e_max2, e_any, e_all, e_sum, e_sorted, e_rev, e_sl, e_oN, e_isi, e_lc, e_wipe0, e_wipe1, e_iA, e_iAb, e_gAq1, e_gAq2, e_gAq3, e_gAqb1, e_gAqb2, e_gAqb3, e_gAqb4, e_no, e_cCh, e_cChI, e_aug, e_decT, e_decF, e_cDispS, e_cDT, e_cDK, e_cDisp1, e_storeA, e_stR1, e_stR2, e_stR3, e_sd1, e_keyD1, e_keyD2, e_keyTD, e_intsD, e_intsD0, e_borT, e_borT2, e_borK, e_borK2, e_argT, e_argT2, e_argK, e_argK2, e_nbT, e_nbK, e_putT, e_putK, e_gAt1, e_gAt2, e_gAt3, e_gAt4, e_gGetDK, e_gGetDT, e_gIxD, e_gInD, e_gNotInD, e_cGet1, e_cGet2, e_dk1, e_dk2, e_dk3, e_dk4, e_dt1, e_dt2, e_del, atI_zero, e_at1, e_at2, e_at3, e_at4, e_at5, e_at6, e_at7, e_at8, e_at9, e_atm, e_V, e_retV, e_unp, e_app, e_store, e_fzE, oS, rsO_some, Rs.bind_ok, Rs.bind_no, Rs.out_ok, Out.then_nx, Out.then_rt, Out.then_ct, Out.then_bk, fin_rt, fin_nx, List.getElem?_cons_zero, List.getElem?_cons_succ, List.set_cons_succ, List.set_cons_zero, List.length_cons, List.length_nil, Nat.reduceAdd, Nat.reduceLT, Nat.reduceLeDiff, Nat.reduceEqDiff, if_true, if_false, Bool.false_eq_true, Bool.not_true, Bool.not_false, and_self, true_and, and_true, List.map_cons, List.map_nil, Option.map_some, sh_int, sh_bool, sh_none, sh_tup, sh_lst, eqv_int, reduceIte, Option.bind_some, Option.bind_none, kitB_ll, kitB_lt, kitB_tt, kitB_tl, kitB_ii, tyD_list, tyD_int, Bool.true_and, Bool.false_and, Bool.and_true, Bool.and_false, Bool.or_true, Bool.true_or, Bool.false_or, Bool.or_false, Bool.and_self, Bool.or_self, e_cAK, List.append_nil, e_andB, e_orB, e_andR, e_orR, tyD_tuple, eqv_bool, eqv_none, tyD_bool, tyD_str, tyD_none, kitB_bb, kitB_nb, kitB_bi, kitB_ib, kitB_nl, kitB_nt, beq_self_eq_true, natI, ad, qd, Option.some.injEq]
    congr 1
    rw [decide_eq_decide]
    omega
  have hos0 : os0.Pairwise (· < ·) := by rw [ho]; exact List.Pairwise.filter _ List.pairwise_lt_range
  have hos1 : ∀ o ∈ os0, o < ss.length := by
    intro o h
    rw [ho, List.mem_filter] at h
    exact List.mem_range.mp h.1
  have hlen : os0.length ≤ 1000000 := by
    have : os0.length ≤ (List.range ss.length).length := by rw [ho]; exact List.length_filter_le _ _
    rw [List.length_range] at this
    omega
  have hany := nat_any os0 (ss.length - 1)
  have hcast : (ss.length : Int) - 1 = ((ss.length - 1 : Nat) : Int) := by omega
  have hlr : ss.length ≤ 1000000 := by omega
  have hc' := hc _ (some (.ol (ss.map Stp.d))) rfl
  simp only [natI] at hc'
  have sI : SeqAt.shaped (.int ((ss.length - 1 : Nat) : Int)) = true := rfl
  have ec : (2 : Int) + (d0 : Int) = ((2 + d0 : Nat) : Int) := by omega
  have ec1 : (1 : Int) + (d1 : Int) = ((1 + d1 : Nat) : Int) := by omega
  have ec2 : (1 : Int) + (d2 : Int) = ((1 + d2 : Nat) : Int) := by omega
  have t0 : gAdd (RV.ol [.int 12, .int 2, .int most]) (.ol (List.replicate (7 : Int).toNat [PyData.int 3, .int 4, .int 13, .int 4, .int 13]).flatten) = .ok (.ol ([PyData.int 12, .int 2, .int most] ++ (List.replicate (7 : Int).toNat [PyData.int 3, .int 4, .int 13, .int 4, .int 13]).flatten)) := rfl
  have t1 : gAdd (RV.ol ([PyData.int 12, .int 2, .int most] ++ (List.replicate (7 : Int).toNat [PyData.int 3, .int 4, .int 13, .int 4, .int 13]).flatten)) (.ol (List.replicate (8 : Int).toNat [PyData.int 3]).flatten) = .ok (.ol ((szP most).map natI)) := rfl
  have r7 : gRep (.ol [PyData.int 3, .int 4, .int 13, .int 4, .int 13]) (.d (.int 7)) = .ok (.ol (List.replicate (7 : Int).toNat [PyData.int 3, .int 4, .int 13, .int 4, .int 13]).flatten) := e_rep rfl (by decide) (by decide)
  have r8 : gRep (.ol [PyData.int 3]) (.d (.int 8)) = .ok (.ol (List.replicate (8 : Int).toNat [PyData.int 3]).flatten) := e_rep rfl (by decide) (by decide)
  have eL : [some (RV.sc ns), some (.d (.int k)), some (.d (.int most)), some (.ol (nd.map natI)), some (.d (.int ((2 + d0 : Nat) : Int))), some (.d (.int ((1 + d1 : Nat) : Int))), some (.ol []), none, none, none, none, none] = [some (RV.sc ns), some (.d (.int k)), some (.d (.int most)), some (.ol (nd.map natI)), some (.d (natI (2 + d0))), some (.d (natI (1 + d1))), some (.ol []), none, none, none, none, none] := rfl
  have fin : ∀ os : List Nat, (F__law_program [.sc ns, .d (.int k), .d (.int most)] = .ok (.d (progD (2 + d0 : Nat) (1 + d1 : Nat) (.tuple (ss.map Stp.d)) (.tuple (os.map natI))))) → OutsOk ss.length os → ∃ (m n : Nat) (ss : List Stp) (os : List Nat),
    F__law_program [.sc ns, .d (.int k), .d (.int most)] = .ok (.d (progD m n (.tuple (ss.map Stp.d)) (.tuple (os.map natI)))) ∧ 2 ≤ m ∧ m ≤ 13 ∧ 1 ≤ n ∧ n ≤ 2 ∧ StpsOk m n ss ∧ 1 ≤ ss.length ∧ ss.length ≤ most ∧ OutsOk ss.length os :=
    fun os e o => ⟨2 + d0, 1 + d1, ss, os, e, by omega, by omega, by omega, by omega, s1, s3, by omega, o⟩
  have go : (fnD 12 B__law_program) [.sc ns, .d (.int k), .d (.int most)] = .ok (.d (progD (2 + d0 : Nat) (1 + d1 : Nat) (.tuple (ss.map Stp.d)) (.tuple ((if ss.length - 1 ∈ os0 then os0 else os0 ++ [ss.length - 1]).map natI)))) := by
    show (B__law_program [some (.sc ns), some (.d (.int k)), some (.d (.int most)), none, none, none, none, none, none, none, none, none]).fin = _
    unfold B__law_program
    simp only [e_nil, e_seq, e_fz, e_bk, e_ct, e_ret, e_retN, e_drop, e_set, e_if, e_for, e_cC, e_c2, e_c1, e_cA, e_aN, e_aC, e_cB, e_asB, e_bNot, e_bAnd, e_bOr, e_vAnd, e_vOr, e_vNot, e_vIf, e_bYes, e_iL, e_iT, e_iLb, e_iR, e_gL1, e_gL2, e_gL3, e_gT, e_gLb1, e_gLb2, e_gLb3, e_gLb4, e_nb1, e_nb2, e_bor1, e_bor2, e_bor3, e_bor4, e_arg1, e_arg2, e_arg3, e_arg4, e_putd, e_puto, e_toD1, e_toD2, e_allD0, e_allD1, e_allD2, e_gTupl, e_gList, e_tgnm, e_tgtp, e_tg0, e_tg1, e_sq1, e_sq2, e_sq3, e_sq4, e_sq5, e_qv2, e_qv3, e_qv4, e_qv5, e_data1, e_data2, e_data3, e_okI, e_okB, e_i2, e_sub, e_mul, e_mod, e_div, e_pow, e_lt, e_le, e_gt, e_ge, e_neg, e_addI, e_addS, e_addT, e_addL1, e_addL2, e_addL3, e_addL4, e_addL5, e_addL6, e_addL7, e_addL8, e_addL9, e_eq, e_ne, e_in, e_notIn, e_inT, e_inT2, e_inL1, e_inL2, e_inL3, e_is, e_isNot, e_isN1, e_isN2, e_isN3, e_isN4, e_isN5, e_isN6, e_isN7, e_ixT, e_ixL, e_ixO, e_ixB, e_ixSc, e_lenT, e_lenL, e_lenO, e_lenB, e_lenSc, e_lenS, e_tupT, e_tupL, e_tupO, e_tupB, e_lisT, e_lisL, e_lisO, e_lisB, e_min2, e_max2, e_any, e_all, e_sum, e_sorted, e_rev, e_sl, e_oN, e_isi, e_lc, e_wipe0, e_wipe1, e_iA, e_iAb, e_gAq1, e_gAq2, e_gAq3, e_gAqb1, e_gAqb2, e_gAqb3, e_gAqb4, e_no, e_cCh, e_cChI, e_aug, e_decT, e_decF, e_cDispS, e_cDT, e_cDK, e_cDisp1, e_storeA, e_stR1, e_stR2, e_stR3, e_sd1, e_keyD1, e_keyD2, e_keyTD, e_intsD, e_intsD0, e_borT, e_borT2, e_borK, e_borK2, e_argT, e_argT2, e_argK, e_argK2, e_nbT, e_nbK, e_putT, e_putK, e_gAt1, e_gAt2, e_gAt3, e_gAt4, e_gGetDK, e_gGetDT, e_gIxD, e_gInD, e_gNotInD, e_cGet1, e_cGet2, e_dk1, e_dk2, e_dk3, e_dk4, e_dt1, e_dt2, e_del, atI_zero, e_at1, e_at2, e_at3, e_at4, e_at5, e_at6, e_at7, e_at8, e_at9, e_atm, e_V, e_retV, e_unp, e_app, e_store, e_fzE, oS, rsO_some, Rs.bind_ok, Rs.bind_no, Rs.out_ok, Out.then_nx, Out.then_rt, Out.then_ct, Out.then_bk, fin_rt, fin_nx, List.getElem?_cons_zero, List.getElem?_cons_succ, List.set_cons_succ, List.set_cons_zero, List.length_cons, List.length_nil, Nat.reduceAdd, Nat.reduceLT, Nat.reduceLeDiff, Nat.reduceEqDiff, if_true, if_false, Bool.false_eq_true, Bool.not_true, Bool.not_false, and_self, true_and, and_true, List.map_cons, List.map_nil, Option.map_some, sh_int, sh_bool, sh_none, sh_tup, sh_lst, eqv_int, reduceIte, Option.bind_some, Option.bind_none, kitB_ll, kitB_lt, kitB_tt, kitB_tl, kitB_ii, tyD_list, tyD_int, Bool.true_and, Bool.false_and, Bool.and_true, Bool.and_false, Bool.or_true, Bool.true_or, Bool.false_or, Bool.or_false, Bool.and_self, Bool.or_self, e_cAK, List.append_nil, e_andB, e_orB, e_andR, e_orR, tyD_tuple, eqv_bool, eqv_none, tyD_bool, tyD_str, tyD_none, kitB_bb, kitB_nb, kitB_bi, kitB_ib, kitB_nl, kitB_nt, beq_self_eq_true, r7, r8, t0, t1, e1, a0, a1, a2, ec, ec1, ec2, hr, eL, e2]
    simp only [e_nil, e_seq, e_fz, e_bk, e_ct, e_ret, e_retN, e_drop, e_set, e_if, e_for, e_cC, e_c2, e_c1, e_cA, e_aN, e_aC, e_cB, e_asB, e_bNot, e_bAnd, e_bOr, e_vAnd, e_vOr, e_vNot, e_vIf, e_bYes, e_iL, e_iT, e_iLb, e_iR, e_gL1, e_gL2, e_gL3, e_gT, e_gLb1, e_gLb2, e_gLb3, e_gLb4, e_nb1, e_nb2, e_bor1, e_bor2, e_bor3, e_bor4, e_arg1, e_arg2, e_arg3, e_arg4, e_putd, e_puto, e_toD1, e_toD2, e_allD0, e_allD1, e_allD2, e_gTupl, e_gList, e_tgnm, e_tgtp, e_tg0, e_tg1, e_sq1, e_sq2, e_sq3, e_sq4, e_sq5, e_qv2, e_qv3, e_qv4, e_qv5, e_data1, e_data2, e_data3, e_okI, e_okB, e_i2, e_sub, e_mul, e_mod, e_div, e_pow, e_lt, e_le, e_gt, e_ge, e_neg, e_addI, e_addS, e_addT, e_addL1, e_addL2, e_addL3, e_addL4, e_addL5, e_addL6, e_addL7, e_addL8, e_addL9, e_eq, e_ne, e_in, e_notIn, e_inT, e_inT2, e_inL1, e_inL2, e_inL3, e_is, e_isNot, e_isN1, e_isN2, e_isN3, e_isN4, e_isN5, e_isN6, e_isN7, e_ixT, e_ixL, e_ixO, e_ixB, e_ixSc, e_lenT, e_lenL, e_lenO, e_lenB, e_lenSc, e_lenS, e_tupT, e_tupL, e_tupO, e_tupB, e_lisT, e_lisL, e_lisO, e_lisB, e_min2, e_max2, e_any, e_all, e_sum, e_sorted, e_rev, e_sl, e_oN, e_isi, e_lc, e_wipe0, e_wipe1, e_iA, e_iAb, e_gAq1, e_gAq2, e_gAq3, e_gAqb1, e_gAqb2, e_gAqb3, e_gAqb4, e_no, e_cCh, e_cChI, e_aug, e_decT, e_decF, e_cDispS, e_cDT, e_cDK, e_cDisp1, e_storeA, e_stR1, e_stR2, e_stR3, e_sd1, e_keyD1, e_keyD2, e_keyTD, e_intsD, e_intsD0, e_borT, e_borT2, e_borK, e_borK2, e_argT, e_argT2, e_argK, e_argK2, e_nbT, e_nbK, e_putT, e_putK, e_gAt1, e_gAt2, e_gAt3, e_gAt4, e_gGetDK, e_gGetDT, e_gIxD, e_gInD, e_gNotInD, e_cGet1, e_cGet2, e_dk1, e_dk2, e_dk3, e_dk4, e_dt1, e_dt2, e_del, atI_zero, e_at1, e_at2, e_at3, e_at4, e_at5, e_at6, e_at7, e_at8, e_at9, e_atm, e_V, e_retV, e_unp, e_app, e_store, e_fzE, oS, rsO_some, Rs.bind_ok, Rs.bind_no, Rs.out_ok, Out.then_nx, Out.then_rt, Out.then_ct, Out.then_bk, fin_rt, fin_nx, List.getElem?_cons_zero, List.getElem?_cons_succ, List.set_cons_succ, List.set_cons_zero, List.length_cons, List.length_nil, Nat.reduceAdd, Nat.reduceLT, Nat.reduceLeDiff, Nat.reduceEqDiff, if_true, if_false, Bool.false_eq_true, Bool.not_true, Bool.not_false, and_self, true_and, and_true, List.map_cons, List.map_nil, Option.map_some, sh_int, sh_bool, sh_none, sh_tup, sh_lst, eqv_int, reduceIte, Option.bind_some, Option.bind_none, kitB_ll, kitB_lt, kitB_tt, kitB_tl, kitB_ii, tyD_list, tyD_int, Bool.true_and, Bool.false_and, Bool.and_true, Bool.and_false, Bool.or_true, Bool.true_or, Bool.false_or, Bool.or_false, Bool.and_self, Bool.or_self, e_cAK, List.append_nil, e_andB, e_orB, e_andR, e_orR, tyD_tuple, eqv_bool, eqv_none, tyD_bool, tyD_str, tyD_none, kitB_bb, kitB_nb, kitB_bi, kitB_ib, kitB_nl, kitB_nt, beq_self_eq_true, List.length_map, List.length_range, hr2, if_pos hlr, hc', hcast, sh_natsL, hany, if_pos hlen, natI]
    by_cases hm : ss.length - 1 ∈ os0
    · simp only [hm, e_nil, e_seq, e_fz, e_bk, e_ct, e_ret, e_retN, e_drop, e_set, e_if, e_for, e_cC, e_c2, e_c1, e_cA, e_aN, e_aC, e_cB, e_asB, e_bNot, e_bAnd, e_bOr, e_vAnd, e_vOr, e_vNot, e_vIf, e_bYes, e_iL, e_iT, e_iLb, e_iR, e_gL1, e_gL2, e_gL3, e_gT, e_gLb1, e_gLb2, e_gLb3, e_gLb4, e_nb1, e_nb2, e_bor1, e_bor2, e_bor3, e_bor4, e_arg1, e_arg2, e_arg3, e_arg4, e_putd, e_puto, e_toD1, e_toD2, e_allD0, e_allD1, e_allD2, e_gTupl, e_gList, e_tgnm, e_tgtp, e_tg0, e_tg1, e_sq1, e_sq2, e_sq3, e_sq4, e_sq5, e_qv2, e_qv3, e_qv4, e_qv5, e_data1, e_data2, e_data3, e_okI, e_okB, e_i2, e_sub, e_mul, e_mod, e_div, e_pow, e_lt, e_le, e_gt, e_ge, e_neg, e_addI, e_addS, e_addT, e_addL1, e_addL2, e_addL3, e_addL4, e_addL5, e_addL6, e_addL7, e_addL8, e_addL9, e_eq, e_ne, e_in, e_notIn, e_inT, e_inT2, e_inL1, e_inL2, e_inL3, e_is, e_isNot, e_isN1, e_isN2, e_isN3, e_isN4, e_isN5, e_isN6, e_isN7, e_ixT, e_ixL, e_ixO, e_ixB, e_ixSc, e_lenT, e_lenL, e_lenO, e_lenB, e_lenSc, e_lenS, e_tupT, e_tupL, e_tupO, e_tupB, e_lisT, e_lisL, e_lisO, e_lisB, e_min2, e_max2, e_any, e_all, e_sum, e_sorted, e_rev, e_sl, e_oN, e_isi, e_lc, e_wipe0, e_wipe1, e_iA, e_iAb, e_gAq1, e_gAq2, e_gAq3, e_gAqb1, e_gAqb2, e_gAqb3, e_gAqb4, e_no, e_cCh, e_cChI, e_aug, e_decT, e_decF, e_cDispS, e_cDT, e_cDK, e_cDisp1, e_storeA, e_stR1, e_stR2, e_stR3, e_sd1, e_keyD1, e_keyD2, e_keyTD, e_intsD, e_intsD0, e_borT, e_borT2, e_borK, e_borK2, e_argT, e_argT2, e_argK, e_argK2, e_nbT, e_nbK, e_putT, e_putK, e_gAt1, e_gAt2, e_gAt3, e_gAt4, e_gGetDK, e_gGetDT, e_gIxD, e_gInD, e_gNotInD, e_cGet1, e_cGet2, e_dk1, e_dk2, e_dk3, e_dk4, e_dt1, e_dt2, e_del, atI_zero, e_at1, e_at2, e_at3, e_at4, e_at5, e_at6, e_at7, e_at8, e_at9, e_atm, e_V, e_retV, e_unp, e_app, e_store, e_fzE, oS, rsO_some, Rs.bind_ok, Rs.bind_no, Rs.out_ok, Out.then_nx, Out.then_rt, Out.then_ct, Out.then_bk, fin_rt, fin_nx, List.getElem?_cons_zero, List.getElem?_cons_succ, List.set_cons_succ, List.set_cons_zero, List.length_cons, List.length_nil, Nat.reduceAdd, Nat.reduceLT, Nat.reduceLeDiff, Nat.reduceEqDiff, if_true, if_false, Bool.false_eq_true, Bool.not_true, Bool.not_false, and_self, true_and, and_true, List.map_cons, List.map_nil, Option.map_some, sh_int, sh_bool, sh_none, sh_tup, sh_lst, eqv_int, reduceIte, Option.bind_some, Option.bind_none, kitB_ll, kitB_lt, kitB_tt, kitB_tl, kitB_ii, tyD_list, tyD_int, Bool.true_and, Bool.false_and, Bool.and_true, Bool.and_false, Bool.or_true, Bool.true_or, Bool.false_or, Bool.or_false, Bool.and_self, Bool.or_self, e_cAK, List.append_nil, e_andB, e_orB, e_andR, e_orR, tyD_tuple, eqv_bool, eqv_none, tyD_bool, tyD_str, tyD_none, kitB_bb, kitB_nb, kitB_bi, kitB_ib, kitB_nl, kitB_nt, beq_self_eq_true, decide_true]
      rfl
    · simp only [hm, e_nil, e_seq, e_fz, e_bk, e_ct, e_ret, e_retN, e_drop, e_set, e_if, e_for, e_cC, e_c2, e_c1, e_cA, e_aN, e_aC, e_cB, e_asB, e_bNot, e_bAnd, e_bOr, e_vAnd, e_vOr, e_vNot, e_vIf, e_bYes, e_iL, e_iT, e_iLb, e_iR, e_gL1, e_gL2, e_gL3, e_gT, e_gLb1, e_gLb2, e_gLb3, e_gLb4, e_nb1, e_nb2, e_bor1, e_bor2, e_bor3, e_bor4, e_arg1, e_arg2, e_arg3, e_arg4, e_putd, e_puto, e_toD1, e_toD2, e_allD0, e_allD1, e_allD2, e_gTupl, e_gList, e_tgnm, e_tgtp, e_tg0, e_tg1, e_sq1, e_sq2, e_sq3, e_sq4, e_sq5, e_qv2, e_qv3, e_qv4, e_qv5, e_data1, e_data2, e_data3, e_okI, e_okB, e_i2, e_sub, e_mul, e_mod, e_div, e_pow, e_lt, e_le, e_gt, e_ge, e_neg, e_addI, e_addS, e_addT, e_addL1, e_addL2, e_addL3, e_addL4, e_addL5, e_addL6, e_addL7, e_addL8, e_addL9, e_eq, e_ne, e_in, e_notIn, e_inT, e_inT2, e_inL1, e_inL2, e_inL3, e_is, e_isNot, e_isN1, e_isN2, e_isN3, e_isN4, e_isN5, e_isN6, e_isN7, e_ixT, e_ixL, e_ixO, e_ixB, e_ixSc, e_lenT, e_lenL, e_lenO, e_lenB, e_lenSc, e_lenS, e_tupT, e_tupL, e_tupO, e_tupB, e_lisT, e_lisL, e_lisO, e_lisB, e_min2, e_max2, e_any, e_all, e_sum, e_sorted, e_rev, e_sl, e_oN, e_isi, e_lc, e_wipe0, e_wipe1, e_iA, e_iAb, e_gAq1, e_gAq2, e_gAq3, e_gAqb1, e_gAqb2, e_gAqb3, e_gAqb4, e_no, e_cCh, e_cChI, e_aug, e_decT, e_decF, e_cDispS, e_cDT, e_cDK, e_cDisp1, e_storeA, e_stR1, e_stR2, e_stR3, e_sd1, e_keyD1, e_keyD2, e_keyTD, e_intsD, e_intsD0, e_borT, e_borT2, e_borK, e_borK2, e_argT, e_argT2, e_argK, e_argK2, e_nbT, e_nbK, e_putT, e_putK, e_gAt1, e_gAt2, e_gAt3, e_gAt4, e_gGetDK, e_gGetDT, e_gIxD, e_gInD, e_gNotInD, e_cGet1, e_cGet2, e_dk1, e_dk2, e_dk3, e_dk4, e_dt1, e_dt2, e_del, atI_zero, e_at1, e_at2, e_at3, e_at4, e_at5, e_at6, e_at7, e_at8, e_at9, e_atm, e_V, e_retV, e_unp, e_app, e_store, e_fzE, oS, rsO_some, Rs.bind_ok, Rs.bind_no, Rs.out_ok, Out.then_nx, Out.then_rt, Out.then_ct, Out.then_bk, fin_rt, fin_nx, List.getElem?_cons_zero, List.getElem?_cons_succ, List.set_cons_succ, List.set_cons_zero, List.length_cons, List.length_nil, Nat.reduceAdd, Nat.reduceLT, Nat.reduceLeDiff, Nat.reduceEqDiff, if_true, if_false, Bool.false_eq_true, Bool.not_true, Bool.not_false, and_self, true_and, and_true, List.map_cons, List.map_nil, Option.map_some, sh_int, sh_bool, sh_none, sh_tup, sh_lst, eqv_int, reduceIte, Option.bind_some, Option.bind_none, kitB_ll, kitB_lt, kitB_tt, kitB_tl, kitB_ii, tyD_list, tyD_int, Bool.true_and, Bool.false_and, Bool.and_true, Bool.and_false, Bool.or_true, Bool.true_or, Bool.false_or, Bool.or_false, Bool.and_self, Bool.or_self, e_cAK, List.append_nil, e_andB, e_orB, e_andR, e_orR, tyD_tuple, eqv_bool, eqv_none, tyD_bool, tyD_str, tyD_none, kitB_bb, kitB_nb, kitB_bi, kitB_ib, kitB_nl, kitB_nt, beq_self_eq_true, decide_false, List.map_append, natI]
      rfl
  refine fin _ go ?_
  split
  · rename_i hm
    exact ⟨hos0, hos1, hm⟩
  · rename_i hm
    refine ⟨List.pairwise_append.mpr ⟨hos0, List.pairwise_singleton _ _, fun a ha b hb => ?_⟩, fun o ho => ?_, by simp⟩
    · rw [List.mem_singleton.mp hb]
      have := hos1 a ha
      have : a ≠ ss.length - 1 := fun e => hm (e ▸ ha)
      omega
    · rcases List.mem_append.mp ho with z | z
      · exact hos1 o z
      · rw [List.mem_singleton.mp z]; omega
/-! ### code at random -/
def Src.good (n m reg : Nat) : Src → Prop
  | .x i => i < n
  | .r i => i < 8 ∧ i ≠ reg
  | .c k => k < m
structure Ins.good (n m : Nat) (i : Ins) : Prop where
  reg : i.reg < 8
  l : i.l.good n m i.reg
  r : i.r.good n m i.reg
theorem Src.good.ok {n m reg : Nat} (hn : n ≤ 100000) (hm : m ≤ 100000) : ∀ {s : Src}, s.good n m reg → s.ok n
  | .x i, h => ⟨h, Nat.lt_of_lt_of_le h hn⟩
  | .r i, h => h.1
  | .c k, h => Nat.lt_of_lt_of_le h hm
theorem Ins.good.ok {n m : Nat} (hn : n ≤ 100000) (hm : m ≤ 100000) {i : Ins} (h : i.good n m) : i.ok n := ⟨h.reg, h.l.ok hn hm, h.r.ok hn hm⟩
/-- a source drawn -/
def srcD (n m reg kind num : Nat) : Src := if kind = 0 then .x (num % n) else if kind = 1 then .c (num % m) else .r ((reg + 1 + num % 7) % 8)
theorem srcD_good {n m reg kind num : Nat} (hn : 0 < n) (hm : 0 < m) (hr : reg < 8) : (srcD n m reg kind num).good n m reg := by
  unfold srcD
  split
  · exact Nat.mod_lt _ hn
  · split
    · exact Nat.mod_lt _ hm
    · show _ ∧ _
      omega
theorem word_step (e0 e1 e3 e4 e5 e6 e11 : Option RV) (m n : Nat) (st out : PyData) (hm : 0 < m) (hm2 : m ≤ 1000) (hn : 0 < n) (hn2 : n ≤ 10) (rw8 : List PyData) (ws : List PyData) (reg kind num : Nat) (hr : reg < 8) (hw : ws.length ≤ 5) :
    L0__law_random [e0, e1, some (.d (progD m n st out)), e3, e4, e5, e6, some (.ol (.int reg :: rw8)), some (.ol ws), some (.d (.int kind)), some (.d (.int num)), e11]
     = .nx [e0, e1, some (.d (progD m n st out)), e3, e4, e5, e6, some (.ol (.int reg :: rw8)), some (.ol (ws ++ [.str (srcD n m reg kind num).str])), some (.d (.int kind)), some (.d (.int num)), some (.d (.str (srcD n m reg kind num).str))] := by
  have c1 := e_modN num 7 (by omega)
  have c2' : gMod (.d (.int ((reg : Int) + 1 + ((num % 7 : Nat) : Int)))) (.d (.int 8)) = .ok (.d (.int (((reg + 1 + num % 7) % 8 : Nat) : Int))) := e_modN (reg + 1 + num % 7) 8 (by omega)
  have bx : num % n < 100000 := by have := Nat.mod_lt num hn; omega
  have bc : num % m < 100000 := by have := Nat.mod_lt num hm; omega
  have br : (reg + 1 + num % 7) % 8 < 100000 := by omega
  have s1 := str_ok br
  have s2 := add_lx let_r br
  have s3 := str_ok bx
  have s4 := add_lx let_x bx
  have s5 := str_ok bc
  have c3 := e_modN num n hn
  have c4 := e_modN num m hm
  have hw : ws.length ≤ 1000000 := by omega
  have c1 : gMod (.d (.int (num : Int))) (.d (.int 7)) = .ok (.d (.int ((num % 7 : Nat) : Int))) := c1
  have w0 : ∀ xs : List PyData, atI xs 0 = xs[0]? := fun xs => by cases xs with
    | nil => rfl
    | cons x xs => exact atI_zero x xs
  unfold L0__law_random progD
  have key : ∀ P : Prop, P → True := fun _ _ => trivial
  by_cases k0 : kind = 0
  · subst k0
    have sd : srcD n m reg 0 num = .x (num % n) := rfl
    simp only [e_nil, e_seq, e_fz, e_bk, e_ct, e_ret, e_retN, e_drop, e_set, e_if, e_for, e_cC, e_c2, e_c1, e_cA, e_aN, e_aC, e_cB, e_asB, e_bNot, e_bAnd, e_bOr, e_vAnd, e_vOr, e_vNot, e_vIf, e_bYes, e_iL, e_iT, e_iLb, e_iR, e_gL1, e_gL2, e_gL3, e_gT, e_gLb1, e_gLb2, e_gLb3, e_gLb4, e_nb1, e_nb2, e_bor1, e_bor2, e_bor3, e_bor4, e_arg1, e_arg2, e_arg3, e_arg4, e_putd, e_puto, e_toD1, e_toD2, e_allD0, e_allD1, e_allD2, e_gTupl, e_gList, e_tgnm, e_tgtp, e_tg0, e_tg1, e_sq1, e_sq2, e_sq3, e_sq4, e_sq5, e_qv2, e_qv3, e_qv4, e_qv5, e_data1, e_data2, e_data3, e_okI, e_okB, e_i2, e_sub, e_mul, e_mod, e_div, e_pow, e_lt, e_le, e_gt, e_ge, e_neg, e_addI, e_addS, e_addT, e_addL1, e_addL2, e_addL3, e_addL4, e_addL5, e_addL6, e_addL7, e_addL8, e_addL9, e_eq, e_ne, e_in, e_notIn, e_inT, e_inT2, e_inL1, e_inL2, e_inL3, e_is, e_isNot, e_isN1, e_isN2, e_isN3, e_isN4, e_isN5, e_isN6, e_isN7, e_ixT, e_ixL, e_ixO, e_ixB, e_ixSc, e_lenT, e_lenL, e_lenO, e_lenB, e_lenSc, e_lenS, e_tupT, e_tupL, e_tupO, e_tupB, e_lisT, e_lisL, e_lisO, e_lisB, e_min2, e_max2, e_any, e_all, e_sum, e_sorted, e_rev, e_sl, e_oN, e_isi, e_lc, e_wipe0, e_wipe1, e_iA, e_iAb, e_gAq1, e_gAq2, e_gAq3, e_gAqb1, e_gAqb2, e_gAqb3, e_gAqb4, e_no, e_cCh, e_cChI, e_aug, e_decT, e_decF, e_cDispS, e_cDT, e_cDK, e_cDisp1, e_storeA, e_stR1, e_stR2, e_stR3, e_sd1, e_keyD1, e_keyD2, e_keyTD, e_intsD, e_intsD0, e_borT, e_borT2, e_borK, e_borK2, e_argT, e_argT2, e_argK, e_argK2, e_nbT, e_nbK, e_putT, e_putK, e_gAt1, e_gAt2, e_gAt3, e_gAt4, e_gGetDK, e_gGetDT, e_gIxD, e_gInD, e_gNotInD, e_cGet1, e_cGet2, e_dk1, e_dk2, e_dk3, e_dk4, e_dt1, e_dt2, e_del, atI_zero, e_at1, e_at2, e_at3, e_at4, e_at5, e_at6, e_at7, e_at8, e_at9, e_atm, e_V, e_retV, e_unp, e_app, e_store, e_fzE, oS, rsO_some, Rs.bind_ok, Rs.bind_no, Rs.out_ok, Out.then_nx, Out.then_rt, Out.then_ct, Out.then_bk, fin_rt, fin_nx, List.getElem?_cons_zero, List.getElem?_cons_succ, List.set_cons_succ, List.set_cons_zero, List.length_cons, List.length_nil, Nat.reduceAdd, Nat.reduceLT, Nat.reduceLeDiff, Nat.reduceEqDiff, if_true, if_false, Bool.false_eq_true, Bool.not_true, Bool.not_false, and_self, true_and, and_true, List.map_cons, List.map_nil, Option.map_some, sh_int, sh_bool, sh_none, sh_tup, sh_lst, eqv_int, reduceIte, Option.bind_some, Option.bind_none, kitB_ll, kitB_lt, kitB_tt, kitB_tl, kitB_ii, tyD_list, tyD_int, Bool.true_and, Bool.false_and, Bool.and_true, Bool.and_false, Bool.or_true, Bool.true_or, Bool.false_or, Bool.or_false, Bool.and_self, Bool.or_self, e_cAK, List.append_nil, List.nil_append, List.cons_append, e_andB, e_orB, e_andR, e_orR, tyD_tuple, eqv_bool, eqv_none, tyD_bool, tyD_str, tyD_none, kitB_bb, kitB_nb, kitB_bi, kitB_ib, kitB_nl, kitB_nt, beq_self_eq_true, c1, c2', s1, s2, s3, s4, c3, c4, sd, Src.str, if_pos hw, decide_true, decide_false, Int.natCast_zero]
    simp (config := {decide := true}) only [e_nil, e_seq, e_fz, e_bk, e_ct, e_ret, e_retN, e_drop, e_set, e_if, e_for, e_cC, e_c2, e_c1, e_cA, e_aN, e_aC, e_cB, e_asB, e_bNot, e_bAnd, e_bOr, e_vAnd, e_vOr, e_vNot, e_vIf, e_bYes, e_iL, e_iT, e_iLb, e_iR, e_gL1, e_gL2, e_gL3, e_gT, e_gLb1, e_gLb2, e_gLb3, e_gLb4, e_nb1, e_nb2, e_bor1, e_bor2, e_bor3, e_bor4, e_arg1, e_arg2, e_arg3, e_arg4, e_putd, e_puto, e_toD1, e_toD2, e_allD0, e_allD1, e_allD2, e_gTupl, e_gList, e_tgnm, e_tgtp, e_tg0, e_tg1, e_sq1, e_sq2, e_sq3, e_sq4, e_sq5, e_qv2, e_qv3, e_qv4, e_qv5, e_data1, e_data2, e_data3, e_okI, e_okB, e_i2, e_sub, e_mul, e_mod, e_div, e_pow, e_lt, e_le, e_gt, e_ge, e_neg, e_addI, e_addS, e_addT, e_addL1, e_addL2, e_addL3, e_addL4, e_addL5, e_addL6, e_addL7, e_addL8, e_addL9, e_eq, e_ne, e_in, e_notIn, e_inT, e_inT2, e_inL1, e_inL2, e_inL3, e_is, e_isNot, e_isN1, e_isN2, e_isN3, e_isN4, e_isN5, e_isN6, e_isN7, e_ixT, e_ixL, e_ixO, e_ixB, e_ixSc, e_lenT, e_lenL, e_lenO, e_lenB, e_lenSc, e_lenS, e_tupT, e_tupL, e_tupO, e_tupB, e_lisT, e_lisL, e_lisO, e_lisB, e_min2, e_max2, e_any, e_all, e_sum, e_sorted, e_rev, e_sl, e_oN, e_isi, e_lc, e_wipe0, e_wipe1, e_iA, e_iAb, e_gAq1, e_gAq2, e_gAq3, e_gAqb1, e_gAqb2, e_gAqb3, e_gAqb4, e_no, e_cCh, e_cChI, e_aug, e_decT, e_decF, e_cDispS, e_cDT, e_cDK, e_cDisp1, e_storeA, e_stR1, e_stR2, e_stR3, e_sd1, e_keyD1, e_keyD2, e_keyTD, e_intsD, e_intsD0, e_borT, e_borT2, e_borK, e_borK2, e_argT, e_argT2, e_argK, e_argK2, e_nbT, e_nbK, e_putT, e_putK, e_gAt1, e_gAt2, e_gAt3, e_gAt4, e_gGetDK, e_gGetDT, e_gIxD, e_gInD, e_gNotInD, e_cGet1, e_cGet2, e_dk1, e_dk2, e_dk3, e_dk4, e_dt1, e_dt2, e_del, atI_zero, e_at1, e_at2, e_at3, e_at4, e_at5, e_at6, e_at7, e_at8, e_at9, e_atm, e_V, e_retV, e_unp, e_app, e_store, e_fzE, oS, rsO_some, Rs.bind_ok, Rs.bind_no, Rs.out_ok, Out.then_nx, Out.then_rt, Out.then_ct, Out.then_bk, fin_rt, fin_nx, List.getElem?_cons_zero, List.getElem?_cons_succ, List.set_cons_succ, List.set_cons_zero, List.length_cons, List.length_nil, Nat.reduceAdd, Nat.reduceLT, Nat.reduceLeDiff, Nat.reduceEqDiff, if_true, if_false, Bool.false_eq_true, Bool.not_true, Bool.not_false, and_self, true_and, and_true, List.map_cons, List.map_nil, Option.map_some, sh_int, sh_bool, sh_none, sh_tup, sh_lst, eqv_int, reduceIte, Option.bind_some, Option.bind_none, kitB_ll, kitB_lt, kitB_tt, kitB_tl, kitB_ii, tyD_list, tyD_int, Bool.true_and, Bool.false_and, Bool.and_true, Bool.and_false, Bool.or_true, Bool.true_or, Bool.false_or, Bool.or_false, Bool.and_self, Bool.or_self, e_cAK, List.append_nil, List.nil_append, List.cons_append, e_andB, e_orB, e_andR, e_orR, tyD_tuple, eqv_bool, eqv_none, tyD_bool, tyD_str, tyD_none, kitB_bb, kitB_nb, kitB_bi, kitB_ib, kitB_nl, kitB_nt, beq_self_eq_true, c3, s3, s4, if_pos hw]
  · by_cases k1 : kind = 1
    · subst k1
      have sd : srcD n m reg 1 num = .c (num % m) := rfl
      simp only [e_nil, e_seq, e_fz, e_bk, e_ct, e_ret, e_retN, e_drop, e_set, e_if, e_for, e_cC, e_c2, e_c1, e_cA, e_aN, e_aC, e_cB, e_asB, e_bNot, e_bAnd, e_bOr, e_vAnd, e_vOr, e_vNot, e_vIf, e_bYes, e_iL, e_iT, e_iLb, e_iR, e_gL1, e_gL2, e_gL3, e_gT, e_gLb1, e_gLb2, e_gLb3, e_gLb4, e_nb1, e_nb2, e_bor1, e_bor2, e_bor3, e_bor4, e_arg1, e_arg2, e_arg3, e_arg4, e_putd, e_puto, e_toD1, e_toD2, e_allD0, e_allD1, e_allD2, e_gTupl, e_gList, e_tgnm, e_tgtp, e_tg0, e_tg1, e_sq1, e_sq2, e_sq3, e_sq4, e_sq5, e_qv2, e_qv3, e_qv4, e_qv5, e_data1, e_data2, e_data3, e_okI, e_okB, e_i2, e_sub, e_mul, e_mod, e_div, e_pow, e_lt, e_le, e_gt, e_ge, e_neg, e_addI, e_addS, e_addT, e_addL1, e_addL2, e_addL3, e_addL4, e_addL5, e_addL6, e_addL7, e_addL8, e_addL9, e_eq, e_ne, e_in, e_notIn, e_inT, e_inT2, e_inL1, e_inL2, e_inL3, e_is, e_isNot, e_isN1, e_isN2, e_isN3, e_isN4, e_isN5, e_isN6, e_isN7, e_ixT, e_ixL, e_ixO, e_ixB, e_ixSc, e_lenT, e_lenL, e_lenO, e_lenB, e_lenSc, e_lenS, e_tupT, e_tupL, e_tupO, e_tupB, e_lisT, e_lisL, e_lisO, e_lisB, e_min2, e_max2, e_any, e_all, e_sum, e_sorted, e_rev, e_sl, e_oN, e_isi, e_lc, e_wipe0, e_wipe1, e_iA, e_iAb, e_gAq1, e_gAq2, e_gAq3, e_gAqb1, e_gAqb2, e_gAqb3, e_gAqb4, e_no, e_cCh, e_cChI, e_aug, e_decT, e_decF, e_cDispS, e_cDT, e_cDK, e_cDisp1, e_storeA, e_stR1, e_stR2, e_stR3, e_sd1, e_keyD1, e_keyD2, e_keyTD, e_intsD, e_intsD0, e_borT, e_borT2, e_borK, e_borK2, e_argT, e_argT2, e_argK, e_argK2, e_nbT, e_nbK, e_putT, e_putK, e_gAt1, e_gAt2, e_gAt3, e_gAt4, e_gGetDK, e_gGetDT, e_gIxD, e_gInD, e_gNotInD, e_cGet1, e_cGet2, e_dk1, e_dk2, e_dk3, e_dk4, e_dt1, e_dt2, e_del, atI_zero, e_at1, e_at2, e_at3, e_at4, e_at5, e_at6, e_at7, e_at8, e_at9, e_atm, e_V, e_retV, e_unp, e_app, e_store, e_fzE, oS, rsO_some, Rs.bind_ok, Rs.bind_no, Rs.out_ok, Out.then_nx, Out.then_rt, Out.then_ct, Out.then_bk, fin_rt, fin_nx, List.getElem?_cons_zero, List.getElem?_cons_succ, List.set_cons_succ, List.set_cons_zero, List.length_cons, List.length_nil, Nat.reduceAdd, Nat.reduceLT, Nat.reduceLeDiff, Nat.reduceEqDiff, if_true, if_false, Bool.false_eq_true, Bool.not_true, Bool.not_false, and_self, true_and, and_true, List.map_cons, List.map_nil, Option.map_some, sh_int, sh_bool, sh_none, sh_tup, sh_lst, eqv_int, reduceIte, Option.bind_some, Option.bind_none, kitB_ll, kitB_lt, kitB_tt, kitB_tl, kitB_ii, tyD_list, tyD_int, Bool.true_and, Bool.false_and, Bool.and_true, Bool.and_false, Bool.or_true, Bool.true_or, Bool.false_or, Bool.or_false, Bool.and_self, Bool.or_self, e_cAK, List.append_nil, List.nil_append, List.cons_append, e_andB, e_orB, e_andR, e_orR, tyD_tuple, eqv_bool, eqv_none, tyD_bool, tyD_str, tyD_none, kitB_bb, kitB_nb, kitB_bi, kitB_ib, kitB_nl, kitB_nt, beq_self_eq_true, c1, c2', s1, s2, s3, s4, c3, c4, sd, Src.str, if_pos hw, decide_true, decide_false]
      simp (config := {decide := true}) only [e_nil, e_seq, e_fz, e_bk, e_ct, e_ret, e_retN, e_drop, e_set, e_if, e_for, e_cC, e_c2, e_c1, e_cA, e_aN, e_aC, e_cB, e_asB, e_bNot, e_bAnd, e_bOr, e_vAnd, e_vOr, e_vNot, e_vIf, e_bYes, e_iL, e_iT, e_iLb, e_iR, e_gL1, e_gL2, e_gL3, e_gT, e_gLb1, e_gLb2, e_gLb3, e_gLb4, e_nb1, e_nb2, e_bor1, e_bor2, e_bor3, e_bor4, e_arg1, e_arg2, e_arg3, e_arg4, e_putd, e_puto, e_toD1, e_toD2, e_allD0, e_allD1, e_allD2, e_gTupl, e_gList, e_tgnm, e_tgtp, e_tg0, e_tg1, e_sq1, e_sq2, e_sq3, e_sq4, e_sq5, e_qv2, e_qv3, e_qv4, e_qv5, e_data1, e_data2, e_data3, e_okI, e_okB, e_i2, e_sub, e_mul, e_mod, e_div, e_pow, e_lt, e_le, e_gt, e_ge, e_neg, e_addI, e_addS, e_addT, e_addL1, e_addL2, e_addL3, e_addL4, e_addL5, e_addL6, e_addL7, e_addL8, e_addL9, e_eq, e_ne, e_in, e_notIn, e_inT, e_inT2, e_inL1, e_inL2, e_inL3, e_is, e_isNot, e_isN1, e_isN2, e_isN3, e_isN4, e_isN5, e_isN6, e_isN7, e_ixT, e_ixL, e_ixO, e_ixB, e_ixSc, e_lenT, e_lenL, e_lenO, e_lenB, e_lenSc, e_lenS, e_tupT, e_tupL, e_tupO, e_tupB, e_lisT, e_lisL, e_lisO, e_lisB, e_min2, e_max2, e_any, e_all, e_sum, e_sorted, e_rev, e_sl, e_oN, e_isi, e_lc, e_wipe0, e_wipe1, e_iA, e_iAb, e_gAq1, e_gAq2, e_gAq3, e_gAqb1, e_gAqb2, e_gAqb3, e_gAqb4, e_no, e_cCh, e_cChI, e_aug, e_decT, e_decF, e_cDispS, e_cDT, e_cDK, e_cDisp1, e_storeA, e_stR1, e_stR2, e_stR3, e_sd1, e_keyD1, e_keyD2, e_keyTD, e_intsD, e_intsD0, e_borT, e_borT2, e_borK, e_borK2, e_argT, e_argT2, e_argK, e_argK2, e_nbT, e_nbK, e_putT, e_putK, e_gAt1, e_gAt2, e_gAt3, e_gAt4, e_gGetDK, e_gGetDT, e_gIxD, e_gInD, e_gNotInD, e_cGet1, e_cGet2, e_dk1, e_dk2, e_dk3, e_dk4, e_dt1, e_dt2, e_del, atI_zero, e_at1, e_at2, e_at3, e_at4, e_at5, e_at6, e_at7, e_at8, e_at9, e_atm, e_V, e_retV, e_unp, e_app, e_store, e_fzE, oS, rsO_some, Rs.bind_ok, Rs.bind_no, Rs.out_ok, Out.then_nx, Out.then_rt, Out.then_ct, Out.then_bk, fin_rt, fin_nx, List.getElem?_cons_zero, List.getElem?_cons_succ, List.set_cons_succ, List.set_cons_zero, List.length_cons, List.length_nil, Nat.reduceAdd, Nat.reduceLT, Nat.reduceLeDiff, Nat.reduceEqDiff, if_true, if_false, Bool.false_eq_true, Bool.not_true, Bool.not_false, and_self, true_and, and_true, List.map_cons, List.map_nil, Option.map_some, sh_int, sh_bool, sh_none, sh_tup, sh_lst, eqv_int, reduceIte, Option.bind_some, Option.bind_none, kitB_ll, kitB_lt, kitB_tt, kitB_tl, kitB_ii, tyD_list, tyD_int, Bool.true_and, Bool.false_and, Bool.and_true, Bool.and_false, Bool.or_true, Bool.true_or, Bool.false_or, Bool.or_false, Bool.and_self, Bool.or_self, e_cAK, List.append_nil, List.nil_append, List.cons_append, e_andB, e_orB, e_andR, e_orR, tyD_tuple, eqv_bool, eqv_none, tyD_bool, tyD_str, tyD_none, kitB_bb, kitB_nb, kitB_bi, kitB_ib, kitB_nl, kitB_nt, beq_self_eq_true, c3, c4, s5, if_pos hw]
    · have sd : srcD n m reg kind num = .r ((reg + 1 + num % 7) % 8) := by simp [srcD, k0, k1]
      have z0 : ¬ (kind : Int) = 0 := by omega
      have z1 : ¬ (kind : Int) = 1 := by omega
      simp only [e_nil, e_seq, e_fz, e_bk, e_ct, e_ret, e_retN, e_drop, e_set, e_if, e_for, e_cC, e_c2, e_c1, e_cA, e_aN, e_aC, e_cB, e_asB, e_bNot, e_bAnd, e_bOr, e_vAnd, e_vOr, e_vNot, e_vIf, e_bYes, e_iL, e_iT, e_iLb, e_iR, e_gL1, e_gL2, e_gL3, e_gT, e_gLb1, e_gLb2, e_gLb3, e_gLb4, e_nb1, e_nb2, e_bor1, e_bor2, e_bor3, e_bor4, e_arg1, e_arg2, e_arg3, e_arg4, e_putd, e_puto, e_toD1, e_toD2, e_allD0, e_allD1, e_allD2, e_gTupl, e_gList, e_tgnm, e_tgtp, e_tg0, e_tg1, e_sq1, e_sq2, e_sq3, e_sq4, e_sq5, e_qv2, e_qv3, e_qv4, e_qv5, e_data1, e_data2, e_data3, e_okI, e_okB, e_i2, e_sub, e_mul, e_mod, e_div, e_pow, e_lt, e_le, e_gt, e_ge, e_neg, e_addI, e_addS, e_addT, e_addL1, e_addL2, e_addL3, e_addL4, e_addL5, e_addL6, e_addL7, e_addL8, e_addL9, e_eq, e_ne, e_in, e_notIn, e_inT, e_inT2, e_inL1, e_inL2, e_inL3, e_is, e_isNot, e_isN1, e_isN2, e_isN3, e_isN4, e_isN5, e_isN6, e_isN7, e_ixT, e_ixL, e_ixO, e_ixB, e_ixSc, e_lenT, e_lenL, e_lenO, e_lenB, e_lenSc, e_lenS, e_tupT, e_tupL, e_tupO, e_tupB, e_lisT, e_lisL, e_lisO, e_lisB, e_min2, e_max2, e_any, e_all, e_sum, e_sorted, e_rev, e_sl, e_oN, e_isi, e_lc, e_wipe0, e_wipe1, e_iA, e_iAb, e_gAq1, e_gAq2, e_gAq3, e_gAqb1, e_gAqb2, e_gAqb3, e_gAqb4, e_no, e_cCh, e_cChI, e_aug, e_decT, e_decF, e_cDispS, e_cDT, e_cDK, e_cDisp1, e_storeA, e_stR1, e_stR2, e_stR3, e_sd1, e_keyD1, e_keyD2, e_keyTD, e_intsD, e_intsD0, e_borT, e_borT2, e_borK, e_borK2, e_argT, e_argT2, e_argK, e_argK2, e_nbT, e_nbK, e_putT, e_putK, e_gAt1, e_gAt2, e_gAt3, e_gAt4, e_gGetDK, e_gGetDT, e_gIxD, e_gInD, e_gNotInD, e_cGet1, e_cGet2, e_dk1, e_dk2, e_dk3, e_dk4, e_dt1, e_dt2, e_del, atI_zero, e_at1, e_at2, e_at3, e_at4, e_at5, e_at6, e_at7, e_at8, e_at9, e_atm, e_V, e_retV, e_unp, e_app, e_store, e_fzE, oS, rsO_some, Rs.bind_ok, Rs.bind_no, Rs.out_ok, Out.then_nx, Out.then_rt, Out.then_ct, Out.then_bk, fin_rt, fin_nx, List.getElem?_cons_zero, List.getElem?_cons_succ, List.set_cons_succ, List.set_cons_zero, List.length_cons, List.length_nil, Nat.reduceAdd, Nat.reduceLT, Nat.reduceLeDiff, Nat.reduceEqDiff, if_true, if_false, Bool.false_eq_true, Bool.not_true, Bool.not_false, and_self, true_and, and_true, List.map_cons, List.map_nil, Option.map_some, sh_int, sh_bool, sh_none, sh_tup, sh_lst, eqv_int, reduceIte, Option.bind_some, Option.bind_none, kitB_ll, kitB_lt, kitB_tt, kitB_tl, kitB_ii, tyD_list, tyD_int, Bool.true_and, Bool.false_and, Bool.and_true, Bool.and_false, Bool.or_true, Bool.true_or, Bool.false_or, Bool.or_false, Bool.and_self, Bool.or_self, e_cAK, List.append_nil, List.nil_append, List.cons_append, e_andB, e_orB, e_andR, e_orR, tyD_tuple, eqv_bool, eqv_none, tyD_bool, tyD_str, tyD_none, kitB_bb, kitB_nb, kitB_bi, kitB_ib, kitB_nl, kitB_nt, beq_self_eq_true, c1, c2', s1, s2, s3, s4, c3, c4, sd, Src.str, if_pos hw, decide_eq_false z0, decide_eq_false z1]
theorem flat_row {α : Type} (row : List α) : ∀ (most j i : Nat), j < most → i < row.length → ((List.replicate most row).flatten)[row.length * j + i]? = row[i]?
  | 0, _, _, h, _ => absurd h (Nat.not_lt_zero _)
  | most + 1, 0, i, _, hi => by
    rw [List.replicate_succ, List.flatten_cons, Nat.mul_zero, Nat.zero_add, List.getElem?_append_left hi]
  | most + 1, j + 1, i, h, hi => by
    rw [List.replicate_succ, List.flatten_cons, List.getElem?_append_right (by rw [Nat.mul_succ]; omega), show row.length * (j + 1) + i - row.length = row.length * j + i by rw [Nat.mul_succ]; omega]
    exact flat_row row most j i (by omega) hi
theorem flat_len {α : Type} (row : List α) : ∀ n : Nat, ((List.replicate n row).flatten).length = n * row.length
  | 0 => by simp
  | n + 1 => by rw [List.replicate_succ, List.flatten_cons, List.length_append, flat_len row n, Nat.add_mul]; omega
theorem flat_map {α β : Type} (f : α → β) (row : List α) : ∀ n : Nat, (List.replicate n (row.map f)).flatten = ((List.replicate n row).flatten).map f
  | 0 => rfl
  | n + 1 => by rw [List.replicate_succ, List.flatten_cons, flat_map f row n, List.replicate_succ, List.flatten_cons, List.map_append]
/-- the sizes of code at random -/
def rowR : List Nat := [8, 2, 3, 3, 13, 3, 13]
def szR (most : Nat) : List Nat := [most] ++ (List.replicate most rowR).flatten
theorem szR_len (most : Nat) : (szR most).length = 1 + most * 7 := by
  rw [szR, List.length_append, flat_len]; rfl
theorem szR_row (most j i : Nat) (hj : j < most) (hi : i < 7) : (szR most)[1 + 7 * j + i]? = rowR[i]? := by
  rw [szR, List.getElem?_append_right (by simp; omega), show 1 + 7 * j + i - [most].length = rowR.length * j + i by simp [rowR]; omega]
  exact flat_row rowR most j i hj hi
theorem szR_ok (most : Nat) (h : 0 < most) (h2 : most < 1000000) : ∀ s ∈ szR most, 0 < s ∧ s < 1000000 := by
  intro s hs
  rw [szR, List.mem_append] at hs
  rcases hs with hs | hs
  · rw [List.mem_singleton.mp hs]; omega
  · obtain ⟨l, hl, h3⟩ := List.mem_flatten.mp hs
    rw [List.eq_of_mem_replicate hl] at h3
    simp [rowR] at h3
    omega
def insR (m n r0 r1 r2 r3 r4 r5 r6 : Nat) : Ins := ⟨r0, decide (r1 = 1), opN r2, srcD n m r0 r3 r4, srcD n m r0 r5 r6⟩
theorem code_step (e0 e1 e3 : Option RV) (m n : Nat) (st out : PyData) (hm : 0 < m) (hm2 : m ≤ 1000) (hn : 0 < n) (hn2 : n ≤ 10) (nd : List Nat) (cs : List Ins) (most j : Nat) (hl : nd.length = (szR most).length) (hj : j < most) (hm3 : most ≤ 100) (hc : cs.length ≤ 1000)
    (hb : ∀ (i s : Nat), (szR most)[i]? = some s → ∃ d, nd[i]? = some d ∧ d < s) (e7 e8 e9 e10 e11 : Option RV) :
    ∃ (i : Ins) (e7' e8' e9' e10' e11' : Option RV), i.good n m ∧ L1__law_random [e0, e1, some (.d (progD m n st out)), e3, some (.ol (cs.map Ins.d)), some (.ol (nd.map natI)), some (.d (.int j)), e7, e8, e9, e10, e11]
     = .nx [e0, e1, some (.d (progD m n st out)), e3, some (.ol ((cs ++ [i]).map Ins.d)), some (.ol (nd.map natI)), some (.d (.int j)), e7', e8', e9', e10', e11'] := by
  rw [szR_len] at hl
  have hR := fun i hi => hb _ _ (show (szR most)[1 + 7 * j + i]? = some (rowR[i]'(hi)) by rw [szR_row most j i hj hi]; simp)
  obtain ⟨r0, q0, b0⟩ := hR 0 (by decide)
  obtain ⟨r1, q1, b1⟩ := hR 1 (by decide)
  obtain ⟨r2, q2, b2⟩ := hR 2 (by decide)
  obtain ⟨r3, q3, b3⟩ := hR 3 (by decide)
  obtain ⟨r4, q4, b4⟩ := hR 4 (by decide)
  obtain ⟨r5, q5, b5⟩ := hR 5 (by decide)
  obtain ⟨r6, q6, b6⟩ := hR 6 (by decide)
  have b0 : r0 < 8 := b0
  rw [Nat.add_zero] at q0
  have hrow : gSl (.bl (nd.map natI)) (some (1 + 7 * (j : Int))) (some (8 + 7 * (j : Int))) = .ok (.ol [.int r0, .int r1, .int r2, .int r3, .int r4, .int r5, .int r6]) := by
    have := cut_rowN nd (1 + 7 * j) (8 + 7 * j) (by omega) (by omega)
    rw [show 8 + 7 * j - (1 + 7 * j) = 7 by omega, take7 q0 q1 q2 q3 q4 q5 q6] at this
    simpa [natI] using this
  have mulOk : (7 : Int).natAbs < 18446744073709551616 ∨ ((j : Int)).natAbs < 18446744073709551616 := .inl (by decide)
  have g : (insR m n r0 r1 r2 r3 r4 r5 r6).good n m := ⟨b0, srcD_good hn hm b0, srcD_good hn hm b0⟩
  have hop := ops_ix r2 b2
  have hsg := sgn_ix r1 b1
  have w1 := fun e11 => word_step e0 e1 e3 (some (.ol (cs.map Ins.d))) (some (.ol (nd.map natI))) (some (.d (.int j))) e11 m n st out hm hm2 hn hn2 [.int r1, .int r2, .int r3, .int r4, .int r5, .int r6] [] r0 r3 r4 b0 (by simp)
  have w2 := fun e11 => word_step e0 e1 e3 (some (.ol (cs.map Ins.d))) (some (.ol (nd.map natI))) (some (.d (.int j))) e11 m n st out hm hm2 hn hn2 [.int r1, .int r2, .int r3, .int r4, .int r5, .int r6] [.str (srcD n m r0 r3 r4).str] r0 r5 r6 b0 (by simp)
  have hz : cs.length ≤ 1000000 := by omega
  have lp : ∀ e9 e10 e11 : Option RV, loopF (.tp [9, 10]) L0__law_random [.tuple [.int r3, .int r4], .tuple [.int r5, .int r6]] [e0, e1, some (.d (progD m n st out)), e3, some (.ol (cs.map Ins.d)), some (.ol (nd.map natI)), some (.d (.int j)), some (.ol [.int r0, .int r1, .int r2, .int r3, .int r4, .int r5, .int r6]), some (.ol []), e9, e10, e11]
      = .nx [e0, e1, some (.d (progD m n st out)), e3, some (.ol (cs.map Ins.d)), some (.ol (nd.map natI)), some (.d (.int j)), some (.ol [.int r0, .int r1, .int r2, .int r3, .int r4, .int r5, .int r6]), some (.ol [.str (srcD n m r0 r3 r4).str, .str (srcD n m r0 r5 r6).str]), some (.d (.int r5)), some (.d (.int r6)), some (.d (.str (srcD n m r0 r5 r6).str))] := by
    intro e9 e10 e11
    simp only [loopF_cons, e_nil, e_seq, e_fz, e_bk, e_ct, e_ret, e_retN, e_drop, e_set, e_if, e_for, e_cC, e_c2, e_c1, e_cA, e_aN, e_aC, e_cB, e_asB, e_bNot, e_bAnd, e_bOr, e_vAnd, e_vOr, e_vNot, e_vIf, e_bYes, e_iL, e_iT, e_iLb, e_iR, e_gL1, e_gL2, e_gL3, e_gT, e_gLb1, e_gLb2, e_gLb3, e_gLb4, e_nb1, e_nb2, e_bor1, e_bor2, e_bor3, e_bor4, e_arg1, e_arg2, e_arg3, e_arg4, e_putd, e_puto, e_toD1, e_toD2, e_allD0, e_allD1, e_allD2, e_gTupl, e_gList, e_tgnm, e_tgtp, e_tg0, e_tg1, e_sq1, e_sq2, e_sq3, e_sq4, e_sq5, e_qv2, e_qv3, e_qv4, e_qv5, e_data1, e_data2, e_data3, e_okI, e_okB, e_i2, e_sub, e_mul, e_mod, e_div, e_pow, e_lt, e_le, e_gt, e_ge, e_neg, e_addI, e_addS, e_addT, e_addL1, e_addL2, e_addL3, e_addL4, e_addL5, e_addL6, e_addL7, e_addL8, e_addL9, e_eq, e_ne, e_in, e_notIn, e_inT, e_inT2, e_inL1, e_inL2, e_inL3, e_is, e_isNot, e_isN1, e_isN2, e_isN3, e_isN4, e_isN5, e_isN6, e_isN7, e_ixT, e_ixL, e_ixO, e_ixB, e_ixSc, e_lenT, e_lenL, e_lenO, e_lenB, e_lenSc, e_lenS, e_tupT, e_tupL, e_tupO, e_tupB, e_lisT, e_lisL, e_lisO, e_lisB, e_min2, e_max2, e_any, e_all, e_sum, e_sorted, e_rev, e_sl, e_oN, e_isi, e_lc, e_wipe0, e_wipe1, e_iA, e_iAb, e_gAq1, e_gAq2, e_gAq3, e_gAqb1, e_gAqb2, e_gAqb3, e_gAqb4, e_no, e_cCh, e_cChI, e_aug, e_decT, e_decF, e_cDispS, e_cDT, e_cDK, e_cDisp1, e_storeA, e_stR1, e_stR2, e_stR3, e_sd1, e_keyD1, e_keyD2, e_keyTD, e_intsD, e_intsD0, e_borT, e_borT2, e_borK, e_borK2, e_argT, e_argT2, e_argK, e_argK2, e_nbT, e_nbK, e_putT, e_putK, e_gAt1, e_gAt2, e_gAt3, e_gAt4, e_gGetDK, e_gGetDT, e_gIxD, e_gInD, e_gNotInD, e_cGet1, e_cGet2, e_dk1, e_dk2, e_dk3, e_dk4, e_dt1, e_dt2, e_del, atI_zero, e_at1, e_at2, e_at3, e_at4, e_at5, e_at6, e_at7, e_at8, e_at9, e_atm, e_V, e_retV, e_unp, e_app, e_store, e_fzE, oS, rsO_some, Rs.bind_ok, Rs.bind_no, Rs.out_ok, Out.then_nx, Out.then_rt, Out.then_ct, Out.then_bk, fin_rt, fin_nx, List.getElem?_cons_zero, List.getElem?_cons_succ, List.set_cons_succ, List.set_cons_zero, List.length_cons, List.length_nil, Nat.reduceAdd, Nat.reduceLT, Nat.reduceLeDiff, Nat.reduceEqDiff, if_true, if_false, Bool.false_eq_true, Bool.not_true, Bool.not_false, and_self, true_and, and_true, List.map_cons, List.map_nil, Option.map_some, sh_int, sh_bool, sh_none, sh_tup, sh_lst, eqv_int, reduceIte, Option.bind_some, Option.bind_none, kitB_ll, kitB_lt, kitB_tt, kitB_tl, kitB_ii, tyD_list, tyD_int, Bool.true_and, Bool.false_and, Bool.and_true, Bool.and_false, Bool.or_true, Bool.true_or, Bool.false_or, Bool.or_false, Bool.and_self, Bool.or_self, e_cAK, List.append_nil, List.nil_append, List.cons_append, e_andB, e_orB, e_andR, e_orR, tyD_tuple, eqv_bool, eqv_none, tyD_bool, tyD_str, tyD_none, kitB_bb, kitB_nb, kitB_bi, kitB_ib, kitB_nl, kitB_nt, beq_self_eq_true, w1, w2, lp_nx, loopF_nil, List.nil_append, List.cons_append]
  have hneg : (if decide (r1 = 1) = true then ("-" : Str) else "+") = (insR m n r0 r1 r2 r3 r4 r5 r6).sgn := rfl
  refine ⟨insR m n r0 r1 r2 r3 r4 r5 r6, ?_⟩
  generalize hX : L1__law_random _ = X
  unfold L1__law_random at hX
  simp only [e_nil, e_seq, e_fz, e_bk, e_ct, e_ret, e_retN, e_drop, e_set, e_if, e_for, e_cC, e_c2, e_c1, e_cA, e_aN, e_aC, e_cB, e_asB, e_bNot, e_bAnd, e_bOr, e_vAnd, e_vOr, e_vNot, e_vIf, e_bYes, e_iL, e_iT, e_iLb, e_iR, e_gL1, e_gL2, e_gL3, e_gT, e_gLb1, e_gLb2, e_gLb3, e_gLb4, e_nb1, e_nb2, e_bor1, e_bor2, e_bor3, e_bor4, e_arg1, e_arg2, e_arg3, e_arg4, e_putd, e_puto, e_toD1, e_toD2, e_allD0, e_allD1, e_allD2, e_gTupl, e_gList, e_tgnm, e_tgtp, e_tg0, e_tg1, e_sq1, e_sq2, e_sq3, e_sq4, e_sq5, e_qv2, e_qv3, e_qv4, e_qv5, e_data1, e_data2, e_data3, e_okI, e_okB, e_i2, e_sub, e_mul, e_mod, e_div, e_pow, e_lt, e_le, e_gt, e_ge, e_neg, e_addI, e_addS, e_addT, e_addL1, e_addL2, e_addL3, e_addL4, e_addL5, e_addL6, e_addL7, e_addL8, e_addL9, e_eq, e_ne, e_in, e_notIn, e_inT, e_inT2, e_inL1, e_inL2, e_inL3, e_is, e_isNot, e_isN1, e_isN2, e_isN3, e_isN4, e_isN5, e_isN6, e_isN7, e_ixT, e_ixL, e_ixO, e_ixB, e_ixSc, e_lenT, e_lenL, e_lenO, e_lenB, e_lenSc, e_lenS, e_tupT, e_tupL, e_tupO, e_tupB, e_lisT, e_lisL, e_lisO, e_lisB, e_min2, e_max2, e_any, e_all, e_sum, e_sorted, e_rev, e_sl, e_oN, e_isi, e_lc, e_wipe0, e_wipe1, e_iA, e_iAb, e_gAq1, e_gAq2, e_gAq3, e_gAqb1, e_gAqb2, e_gAqb3, e_gAqb4, e_no, e_cCh, e_cChI, e_aug, e_decT, e_decF, e_cDispS, e_cDT, e_cDK, e_cDisp1, e_storeA, e_stR1, e_stR2, e_stR3, e_sd1, e_keyD1, e_keyD2, e_keyTD, e_intsD, e_intsD0, e_borT, e_borT2, e_borK, e_borK2, e_argT, e_argT2, e_argK, e_argK2, e_nbT, e_nbK, e_putT, e_putK, e_gAt1, e_gAt2, e_gAt3, e_gAt4, e_gGetDK, e_gGetDT, e_gIxD, e_gInD, e_gNotInD, e_cGet1, e_cGet2, e_dk1, e_dk2, e_dk3, e_dk4, e_dt1, e_dt2, e_del, atI_zero, e_at1, e_at2, e_at3, e_at4, e_at5, e_at6, e_at7, e_at8, e_at9, e_atm, e_V, e_retV, e_unp, e_app, e_store, e_fzE, oS, rsO_some, Rs.bind_ok, Rs.bind_no, Rs.out_ok, Out.then_nx, Out.then_rt, Out.then_ct, Out.then_bk, fin_rt, fin_nx, List.getElem?_cons_zero, List.getElem?_cons_succ, List.set_cons_succ, List.set_cons_zero, List.length_cons, List.length_nil, Nat.reduceAdd, Nat.reduceLT, Nat.reduceLeDiff, Nat.reduceEqDiff, if_true, if_false, Bool.false_eq_true, Bool.not_true, Bool.not_false, and_self, true_and, and_true, List.map_cons, List.map_nil, Option.map_some, sh_int, sh_bool, sh_none, sh_tup, sh_lst, eqv_int, reduceIte, Option.bind_some, Option.bind_none, kitB_ll, kitB_lt, kitB_tt, kitB_tl, kitB_ii, tyD_list, tyD_int, Bool.true_and, Bool.false_and, Bool.and_true, Bool.and_false, Bool.or_true, Bool.true_or, Bool.false_or, Bool.or_false, Bool.and_self, Bool.or_self, e_cAK, List.append_nil, List.nil_append, List.cons_append, e_andB, e_orB, e_andR, e_orR, tyD_tuple, eqv_bool, eqv_none, tyD_bool, tyD_str, tyD_none, kitB_bb, kitB_nb, kitB_bi, kitB_ib, kitB_nl, kitB_nt, beq_self_eq_true, if_pos mulOk, hrow, lp, hop, hsg, List.length_map, if_pos hz] at hX
  subst hX
  rw [List.map_append]
  exact ⟨_, _, _, _, _, g, rfl⟩
theorem random_ok (ns : List Int) (k most m n : Nat) (st out : PyData) (h1 : 1 ≤ most) (h2 : most ≤ 100) (hm : 0 < m) (hm2 : m ≤ 1000) (hn : 0 < n) (hn2 : n ≤ 10) : ∃ cs : List Ins,
    F__law_random [.sc ns, .d (.int k), .d (progD m n st out), .d (.int most)] = .ok (.ol (cs.map Ins.d)) ∧ (∀ i ∈ cs, i.good n m) ∧ cs.length < most := by
  obtain ⟨nd, e1, hl, hb⟩ := draw_nat ns k (szR most) (szR_ok most h1 (by omega)) (by rw [szR_len]; omega)
  obtain ⟨d0, q0, b0⟩ := hb 0 most rfl
  have a0 : atI (nd.map natI) 0 = some (.int d0) := atI_nats (i := 0) q0
  have hr := e_R1n (n := d0) (by omega)
  rw [rng_nat] at hr
  have r7 : gRep (.ol [PyData.int 8, .int 2, .int 3, .int 3, .int 13, .int 3, .int 13]) (.d (.int most)) = .ok (.ol (((List.replicate most rowR).flatten).map natI)) := by
    rw [e_rep rfl (by omega) (by simp; omega), Int.toNat_natCast, ← flat_map]; rfl
  have t0 : gAdd (RV.ol [.int most]) (.ol (((List.replicate most rowR).flatten).map natI)) = .ok (.ol ((szR most).map natI)) := by
    rw [e_addL1, if_pos (by rw [List.length_map, flat_len]; simp [rowR]; omega), szR, List.map_append]; rfl
  obtain ⟨env', e2, cs, e6, e7, e8, e9, e10, e11, rfl, g, hc⟩ := loopF_ex (tg := .nm 6) (f := L1__law_random) (fun i env => ∃ (cs : List Ins) (e6 e7 e8 e9 e10 e11 : Option RV), env = [some (.sc ns), some (.d (.int k)), some (.d (progD m n st out)), some (.d (.int most)), some (.ol (cs.map Ins.d)), some (.ol (nd.map natI)), e6, e7, e8, e9, e10, e11] ∧ (∀ i ∈ cs, i.good n m) ∧ cs.length = i) natI (List.range d0)
    [some (.sc ns), some (.d (.int k)), some (.d (progD m n st out)), some (.d (.int most)), some (.ol []), some (.ol (nd.map natI)), none, none, none, none, none, none] (by
      rintro i env x hx ⟨cs, e6, e7, e8, e9, e10, e11, rfl, g, hc⟩
      have hi : i < d0 := by simpa using (List.getElem?_eq_some_iff.mp hx).1
      have ex : x = i := by rw [List.getElem?_range hi] at hx; exact (Option.some.inj hx).symm
      subst ex
      obtain ⟨i, e7', e8', e9', e10', e11', gi, e3⟩ := code_step (some (.sc ns)) (some (.d (.int k))) (some (.d (.int most))) m n st out hm hm2 hn hn2 nd cs most x hl (by omega) h2 (by omega) hb e7 e8 e9 e10 e11
      refine ⟨_, rfl, _, .inl e3, cs ++ [i], _, _, _, _, _, _, rfl, fun y hy => ?_, by simp [hc]⟩
      rcases List.mem_append.mp hy with z | z
      · exact g y z
      · rw [List.mem_singleton.mp z]; exact gi) ⟨[], none, none, none, none, none, none, rfl, by simp, rfl⟩
  rw [List.length_range] at hc
  refine ⟨cs, ?_, g, by omega⟩
  show (sSeq _ _ [some (.sc ns), some (.d (.int k)), some (.d (progD m n st out)), some (.d (.int most)), none, none, none, none, none, none, none, none]).fin = _
  simp only [e_nil, e_seq, e_fz, e_bk, e_ct, e_ret, e_retN, e_drop, e_set, e_if, e_for, e_cC, e_c2, e_c1, e_cA, e_aN, e_aC, e_cB, e_asB, e_bNot, e_bAnd, e_bOr, e_vAnd, e_vOr, e_vNot, e_vIf, e_bYes, e_iL, e_iT, e_iLb, e_iR, e_gL1, e_gL2, e_gL3, e_gT, e_gLb1, e_gLb2, e_gLb3, e_gLb4, e_nb1, e_nb2, e_bor1, e_bor2, e_bor3, e_bor4, e_arg1, e_arg2, e_arg3, e_arg4, e_putd, e_puto, e_toD1, e_toD2, e_allD0, e_allD1, e_allD2, e_gTupl, e_gList, e_tgnm, e_tgtp, e_tg0, e_tg1, e_sq1, e_sq2, e_sq3, e_sq4, e_sq5, e_qv2, e_qv3, e_qv4, e_qv5, e_data1, e_data2, e_data3, e_okI, e_okB, e_i2, e_sub, e_mul, e_mod, e_div, e_pow, e_lt, e_le, e_gt, e_ge, e_neg, e_addI, e_addS, e_addT, e_addL1, e_addL2, e_addL3, e_addL4, e_addL5, e_addL6, e_addL7, e_addL8, e_addL9, e_eq, e_ne, e_in, e_notIn, e_inT, e_inT2, e_inL1, e_inL2, e_inL3, e_is, e_isNot, e_isN1, e_isN2, e_isN3, e_isN4, e_isN5, e_isN6, e_isN7, e_ixT, e_ixL, e_ixO, e_ixB, e_ixSc, e_lenT, e_lenL, e_lenO, e_lenB, e_lenSc, e_lenS, e_tupT, e_tupL, e_tupO, e_tupB, e_lisT, e_lisL, e_lisO, e_lisB, e_min2, e_max2, e_any, e_all, e_sum, e_sorted, e_rev, e_sl, e_oN, e_isi, e_lc, e_wipe0, e_wipe1, e_iA, e_iAb, e_gAq1, e_gAq2, e_gAq3, e_gAqb1, e_gAqb2, e_gAqb3, e_gAqb4, e_no, e_cCh, e_cChI, e_aug, e_decT, e_decF, e_cDispS, e_cDT, e_cDK, e_cDisp1, e_storeA, e_stR1, e_stR2, e_stR3, e_sd1, e_keyD1, e_keyD2, e_keyTD, e_intsD, e_intsD0, e_borT, e_borT2, e_borK, e_borK2, e_argT, e_argT2, e_argK, e_argK2, e_nbT, e_nbK, e_putT, e_putK, e_gAt1, e_gAt2, e_gAt3, e_gAt4, e_gGetDK, e_gGetDT, e_gIxD, e_gInD, e_gNotInD, e_cGet1, e_cGet2, e_dk1, e_dk2, e_dk3, e_dk4, e_dt1, e_dt2, e_del, atI_zero, e_at1, e_at2, e_at3, e_at4, e_at5, e_at6, e_at7, e_at8, e_at9, e_atm, e_V, e_retV, e_unp, e_app, e_store, e_fzE, oS, rsO_some, Rs.bind_ok, Rs.bind_no, Rs.out_ok, Out.then_nx, Out.then_rt, Out.then_ct, Out.then_bk, fin_rt, fin_nx, List.getElem?_cons_zero, List.getElem?_cons_succ, List.set_cons_succ, List.set_cons_zero, List.length_cons, List.length_nil, Nat.reduceAdd, Nat.reduceLT, Nat.reduceLeDiff, Nat.reduceEqDiff, if_true, if_false, Bool.false_eq_true, Bool.not_true, Bool.not_false, and_self, true_and, and_true, List.map_cons, List.map_nil, Option.map_some, sh_int, sh_bool, sh_none, sh_tup, sh_lst, eqv_int, reduceIte, Option.bind_some, Option.bind_none, kitB_ll, kitB_lt, kitB_tt, kitB_tl, kitB_ii, tyD_list, tyD_int, Bool.true_and, Bool.false_and, Bool.and_true, Bool.and_false, Bool.or_true, Bool.true_or, Bool.false_or, Bool.or_false, Bool.and_self, Bool.or_self, e_cAK, List.append_nil, List.nil_append, List.cons_append, e_andB, e_orB, e_andR, e_orR, tyD_tuple, eqv_bool, eqv_none, tyD_bool, tyD_str, tyD_none, kitB_bb, kitB_nb, kitB_bi, kitB_ib, kitB_nl, kitB_nt, beq_self_eq_true, r7, t0, e1, a0, hr, e2]
theorem regs_draw (ns : List Int) (k c m : Nat) (hm : 0 < m) (hm2 : m ≤ 1000) (hc : c ≤ 100) : ∃ xs : List Int, F__law_draw [.sc ns, .d (.int k), .d (.list ((List.replicate c m).map natI))] = .ok (.ol (xs.map .int)) ∧ xs.length = c ∧ Regs m xs := by
  obtain ⟨nd, e1, hl, hb⟩ := draw_nat ns k (List.replicate c m) (fun s hs => by rw [List.eq_of_mem_replicate hs]; omega) (by simp; omega)
  rw [List.length_replicate] at hl
  refine ⟨nd.map fun n : Nat => (n : Int), by rw [e1, List.map_map]; rfl, by simpa using hl, ⟨fun x hx => ?_⟩⟩
  obtain ⟨d, hd, rfl⟩ := List.mem_map.mp hx
  obtain ⟨i, hi, rfl⟩ := List.getElem_of_mem hd
  obtain ⟨d, q, b⟩ := hb i m (by rw [List.getElem?_replicate, if_pos (by omega)])
  rw [List.getElem?_eq_getElem hi] at q
  cases q
  omega
theorem rep_ok (c m : Nat) (hc : c ≤ 100) : gRep (.ol [.int (m : Int)]) (.d (.int c)) = .ok (.ol ((List.replicate c m).map natI)) := by
  rw [e_rep rfl (by omega) (by simp; omega), Int.toNat_natCast, ← rep_one]; rfl
theorem inputs_ok (ns : List Int) (k m n : Nat) (st out : PyData) (hm : 0 < m) (hm2 : m ≤ 1000) (hn2 : n ≤ 10) : ∃ xs : List Int,
    F__law_inputs [.sc ns, .d (.int k), .d (progD m n st out)] = .ok (.ol (xs.map .int)) ∧ xs.length = n ∧ Regs m xs := by
  obtain ⟨xs, e1, h1, h2⟩ := regs_draw ns k n m hm hm2 (by omega)
  have hr := rep_ok n m (by omega)
  refine ⟨xs, ?_, h1, h2⟩
  show (sSeq _ _ [some (.sc ns), some (.d (.int k)), some (.d (progD m n st out)), none]).fin = _
  simp only [e_nil, e_seq, e_fz, e_bk, e_ct, e_ret, e_retN, e_drop, e_set, e_if, e_for, e_cC, e_c2, e_c1, e_cA, e_aN, e_aC, e_cB, e_asB, e_bNot, e_bAnd, e_bOr, e_vAnd, e_vOr, e_vNot, e_vIf, e_bYes, e_iL, e_iT, e_iLb, e_iR, e_gL1, e_gL2, e_gL3, e_gT, e_gLb1, e_gLb2, e_gLb3, e_gLb4, e_nb1, e_nb2, e_bor1, e_bor2, e_bor3, e_bor4, e_arg1, e_arg2, e_arg3, e_arg4, e_putd, e_puto, e_toD1, e_toD2, e_allD0, e_allD1, e_allD2, e_gTupl, e_gList, e_tgnm, e_tgtp, e_tg0, e_tg1, e_sq1, e_sq2, e_sq3, e_sq4, e_sq5, e_qv2, e_qv3, e_qv4, e_qv5, e_data1, e_data2, e_data3, e_okI, e_okB, e_i2, e_sub, e_mul, e_mod, e_div, e_pow, e_lt, e_le, e_gt, e_ge, e_neg, e_addI, e_addS, e_addT, e_addL1, e_addL2, e_addL3, e_addL4, e_addL5, e_addL6, e_addL7, e_addL8, e_addL9, e_eq, e_ne, e_in, e_notIn, e_inT, e_inT2, e_inL1, e_inL2, e_inL3, e_is, e_isNot, e_isN1, e_isN2, e_isN3, e_isN4, e_isN5, e_isN6, e_isN7, e_ixT, e_ixL, e_ixO, e_ixB, e_ixSc, e_lenT, e_lenL, e_lenO, e_lenB, e_lenSc, e_lenS, e_tupT, e_tupL, e_tupO, e_tupB, e_lisT, e_lisL, e_lisO, e_lisB, e_min2, e_max2, e_any, e_all, e_sum, e_sorted, e_rev, e_sl, e_oN, e_isi, e_lc, e_wipe0, e_wipe1, e_iA, e_iAb, e_gAq1, e_gAq2, e_gAq3, e_gAqb1, e_gAqb2, e_gAqb3, e_gAqb4, e_no, e_cCh, e_cChI, e_aug, e_decT, e_decF, e_cDispS, e_cDT, e_cDK, e_cDisp1, e_storeA, e_stR1, e_stR2, e_stR3, e_sd1, e_keyD1, e_keyD2, e_keyTD, e_intsD, e_intsD0, e_borT, e_borT2, e_borK, e_borK2, e_argT, e_argT2, e_argK, e_argK2, e_nbT, e_nbK, e_putT, e_putK, e_gAt1, e_gAt2, e_gAt3, e_gAt4, e_gGetDK, e_gGetDT, e_gIxD, e_gInD, e_gNotInD, e_cGet1, e_cGet2, e_dk1, e_dk2, e_dk3, e_dk4, e_dt1, e_dt2, e_del, atI_zero, e_at1, e_at2, e_at3, e_at4, e_at5, e_at6, e_at7, e_at8, e_at9, e_atm, e_V, e_retV, e_unp, e_app, e_store, e_fzE, oS, rsO_some, Rs.bind_ok, Rs.bind_no, Rs.out_ok, Out.then_nx, Out.then_rt, Out.then_ct, Out.then_bk, fin_rt, fin_nx, List.getElem?_cons_zero, List.getElem?_cons_succ, List.set_cons_succ, List.set_cons_zero, List.length_cons, List.length_nil, Nat.reduceAdd, Nat.reduceLT, Nat.reduceLeDiff, Nat.reduceEqDiff, if_true, if_false, Bool.false_eq_true, Bool.not_true, Bool.not_false, and_self, true_and, and_true, List.map_cons, List.map_nil, Option.map_some, sh_int, sh_bool, sh_none, sh_tup, sh_lst, eqv_int, reduceIte, Option.bind_some, Option.bind_none, kitB_ll, kitB_lt, kitB_tt, kitB_tl, kitB_ii, tyD_list, tyD_int, Bool.true_and, Bool.false_and, Bool.and_true, Bool.and_false, Bool.or_true, Bool.true_or, Bool.false_or, Bool.or_false, Bool.and_self, Bool.or_self, e_cAK, List.append_nil, List.nil_append, List.cons_append, e_andB, e_orB, e_andR, e_orR, tyD_tuple, eqv_bool, eqv_none, tyD_bool, tyD_str, tyD_none, kitB_bb, kitB_nb, kitB_bi, kitB_ib, kitB_nl, kitB_nt, beq_self_eq_true, progD, hr, e1]
theorem turns2 (ns : List Int) (h : ns.length ≤ 63) (a b : Int) (hb : 0 < b) (hb2 : b < 1000) (ha0 : 1 ≤ a) (ha : a ≤ 1000) (env : VEnv) (h0 : env[0]? = some (some (.sc ns))) : ∃ m : Nat, (m : Int) ≤ a ∧ (iR gR1 (aC (cA gMin2 (aC (cC (.int a)) (aC (cA gMax2 (aC (cC (.int 1)) (aC (c2 gDiv (cA gLen (aC (cV 0) aN)) (cC (.int b))) aN))) aN))) aN)) env = .ok ((List.range m).map natI) := by
  have hd : 0 ≤ (ns.length : Int) / b := Int.ediv_nonneg (by omega) (by omega)
  obtain ⟨p, hp⟩ : ∃ p, p = (if (ns.length : Int) / b > 1 then (ns.length : Int) / b else 1) := ⟨_, rfl⟩
  have hp1 : 1 ≤ p := by rw [hp]; split <;> omega
  obtain ⟨q, hq⟩ : ∃ q, q = (if p < a then p else a) := ⟨_, rfl⟩
  have hm : q.natAbs ≤ 1000000 ∧ 0 ≤ q ∧ q ≤ a := by rw [hq]; split <;> omega
  refine ⟨q.toNat, by omega, ?_⟩
  have := e_R1 hm.1
  rw [rng_nat] at this
  have hbb : 0 < b ∧ b.natAbs < 1073741824 := by omega
  simp only [e_iR, e_aC, e_cA, e_aN, e_c2, e_V, h0, Rs.bind_ok, e_cC, e_bor4, e_lenSc, e_div, if_pos hbb, e_max2, e_min2, ← hp, ← hq, this]
theorem code_nice (cs : List Ins) : Nice 2 (.list (cs.map Ins.d)) := Nice.lst fun d hd => by
  obtain ⟨i, _, rfl⟩ := List.mem_map.mp hd
  refine Nice.tup fun e he => ?_
  simp at he
  rcases he with rfl | rfl | rfl | rfl | rfl
  · exact Nice.int 0 _
  · refine Nice.str 0 ?_
    unfold Ins.sgn
    split
    · exact minus_ok
    · exact plus_ok
  · exact Nice.str 0 (op_ok _)
  · exact Nice.str 0 (Src.strOk _)
  · exact Nice.str 0 (Src.strOk _)
theorem ints_nice (xs : List Int) : Nice 1 (.list (xs.map .int)) := Nice.lst fun d hd => by
  obtain ⟨i, _, rfl⟩ := List.mem_map.mp hd
  exact Nice.int 0 _
theorem Nice.up {k l : Nat} {d : PyData} (h : Nice k d) (hl : k ≤ l) : Nice l d := ⟨h.1, Nat.le_trans h.2 hl⟩
/-! ### the law's own way -/
theorem s_ne_x : (("s" : Str) = "x") = False := by simp; decide +kernel
theorem r_ne_s : (("r" : Str) = "s") = False := by simp; decide +kernel
theorem law_value_ok (s : Src) {n : Nat} (ho : s.ok n) {a b : RV} {ins regs : List Int} (ha : Ls a ins) (hb : Ls b regs) (hi : ins.length = n) (hr : regs.length = 8) : F__law_value [.d (.str s.str), a, b] = .ok (.d (.int (s.val ins regs))) := by
  show (sSeq _ _ [some (.d (.str s.str)), some a, some b]).fin = _
  cases s with
  | x i =>
    obtain ⟨h1, h2⟩ := ho
    have e1 := head_x i h2 "x" letx_ok
    have e2 := ha.ix (i := i) (by omega)
    have e3 := lx_tail let_x h2
    have e4 := int_ok h2
    simp only [e_seq, e_if, e_cB, e_c2, e_V, List.getElem?_cons_zero, List.getElem?_cons_succ, Rs.bind_ok, e_bor1, e_cC, Src.str, e1, decide_true, e_asB, Rs.out_ok, if_true, e_ret, e_cA, e_aC, e_aN, e_sl, oS, e_oN, e3, e4, e2]
    rfl
  | r i =>
    have h2 : i < 100000 := by have : i < 8 := ho; omega
    have e1 := head_r i h2 "x" letx_ok
    have e1' := head_r i h2 "r" letr_ok
    have e1'' := head_r i h2 "s" lets_ok
    have e2 := hb.ix (i := i) (by have : i < 8 := ho; omega)
    have e3 := lx_tail let_r h2
    have e4 := int_ok h2
    simp only [e_seq, e_if, e_bOr, e_cB, e_c2, e_V, List.getElem?_cons_zero, List.getElem?_cons_succ, Rs.bind_ok, e_bor1, e_cC, Src.str, e1, e1', e1'', decide_true, e_asB, Rs.out_ok, if_true, e_ret, e_cA, e_aC, e_aN, e_sl, oS, e_oN, e3, e4, e2, r_ne_x, r_ne_s, decide_false, Bool.false_eq_true, if_false, e_nil, Out.then_nx]
    rfl
  | c k =>
    have h2 : k < 100000 := ho
    have e1 := head_c k h2 let_x (by decide) letx_ok
    have e1' := head_c k h2 let_r (by decide) letr_ok
    have e1'' := head_c k h2 let_s (by decide) lets_ok
    have e4 := int_ok h2
    simp only [e_seq, e_if, e_bOr, e_cB, e_c2, e_V, List.getElem?_cons_zero, List.getElem?_cons_succ, Rs.bind_ok, e_bor1, e_cC, Src.str, e1, e1', e1'', e_asB, Rs.out_ok, e_ret, e_cA, e_aC, e_aN, e4, Bool.false_eq_true, if_false, e_nil, Out.then_nx]
    rfl
theorem law_result_ok (o : Op) (a b m : Int) (hm : 0 < m) (ha : a.natAbs < 18446744073709551616) : F__law_result [.d (.str o.str), .d (.int a), .d (.int b), .d (.int m)] = .ok (.d (.int (o.ap a b % m))) := by
  show (sSeq _ _ [some (.d (.str o.str)), some (.d (.int a)), some (.d (.int b)), some (.d (.int m))]).fin = _
  cases o <;> simp [Op.str, Op.ap, e_V, sh_str plus_ok, sh_str minus_ok, sh_str star_ok, sub_ne_add, mul_ne_add, mul_ne_sub, ha, hm]
theorem after_ok {m n : Int} {st out : PyData} (hm : 0 < m) (hm2 : m ≤ 1000) {k : Nat} (code : List Ins) (hc : ∀ i ∈ code, i.ok k) {a b : RV} {ins regs : List Int} (ha : Ls a ins) (hb : Ls b regs) (hi : ins.length = k) (hr : regs.length = 8) (h1 : Regs m ins) (h2 : Regs m regs) :
    F__law_after [.d (progD m n st out), .d (.list (code.map Ins.d)), a, b] = .ok (.ol ((runM m ins code regs).map .int)) := by
  obtain ⟨env', e1, j5, j6, j7, j8, j9, j10, rfl, _, _⟩ := loopF_rel (tg := .tp [5, 6, 7, 8, 9]) (f := L0__law_after) (fun _ (rs : List Int) env => ∃ j5 j6 j7 j8 j9 j10, env = [some (.d (progD m n st out)), some (.d (.list (code.map Ins.d))), some a, some b, some (.ol (rs.map .int)), j5, j6, j7, j8, j9, j10] ∧ rs.length = 8 ∧ Regs m rs) Ins.d (fun rs i => i.do m ins rs) code regs
    [some (.d (progD m n st out)), some (.d (.list (code.map Ins.d))), some a, some b, some (.ol (regs.map .int)), none, none, none, none, none, none] (by
      rintro j rs env i hx ⟨j5, j6, j7, j8, j9, j10, rfl, hl, hR⟩
      have ho := hc i (List.mem_of_getElem? hx)
      have v1 := law_value_ok i.l ho.l ha (b := .bl (rs.map .int)) (.inr rfl) hi hl
      have v2 := law_value_ok i.r ho.r ha (b := .bl (rs.map .int)) (.inr rfl) hi hl
      have v3 := law_result_ok i.op (i.l.val ins rs) (i.r.val ins rs) m hm (by have := Src.bound hm h1 hR ho.l; omega)
      have hx : gIx (.bl (rs.map .int)) (.d (.int i.reg)) = .ok (.d (.int (rs.getD i.reg 0))) := Ls.ix (.inr rfl) (by have := ho.reg; omega)
      have hn : ixN (rs.map PyData.int).length (i.reg : Int) = some i.reg := ixN_nat (by have := ho.reg; simp; omega)
      have hp : gIx (.d (progD m n st out)) (.d (.int 0)) = .ok (.d (.int m)) := rfl
      have hdo : rs.set i.reg ((if i.neg then rs.getD i.reg 0 - i.op.ap (i.l.val ins rs) (i.r.val ins rs) else rs.getD i.reg 0 + i.op.ap (i.l.val ins rs) (i.r.val ins rs)) % m) = i.do m ins rs := rfl
      refine ⟨[some (.d (progD m n st out)), some (.d (.list (code.map Ins.d))), some a, some b, some (.ol (rs.map .int)), some (.d (.int i.reg)), some (.d (.str i.sgn)), some (.d (.str i.op.str)), some (.d (.str i.l.str)), some (.d (.str i.r.str)), j10], rfl, ?_⟩
      refine ⟨[some (.d (progD m n st out)), some (.d (.list (code.map Ins.d))), some a, some b, some (.ol ((i.do m ins rs).map .int)), some (.d (.int i.reg)), some (.d (.str i.sgn)), some (.d (.str i.op.str)), some (.d (.str i.l.str)), some (.d (.str i.r.str)), some (.d (.int (if i.neg then -(i.op.ap (i.l.val ins rs) (i.r.val ins rs) % m) else i.op.ap (i.l.val ins rs) (i.r.val ins rs) % m)))], .inl ?_, _, _, _, _, _, _, rfl, by rw [Ins.do_len]; exact hl, Ins.do_regs hm hR i⟩
      unfold L0__law_after
      simp only [e_seq, e_set, e_cA, e_aC, e_aN, e_V, List.getElem?_cons_zero, List.getElem?_cons_succ, Rs.bind_ok, e_bor1, e_bor2, List.length_cons, List.length_nil, Nat.reduceAdd, if_true, List.map_cons, List.map_nil, e_arg1, e_arg3, ha.arg, e_c2, e_cC, hp, v1, v2, v3, Rs.out_ok, e_putd, Nat.reduceLT, List.set_cons_succ, List.set_cons_zero, Out.then_nx]
      generalize i.op.ap (i.l.val ins rs) (i.r.val ins rs) = v at hdo ⊢
      generalize rs.getD i.reg 0 = c at hx hdo ⊢
      cases hg : i.neg with
      | false =>
        rw [hg, if_neg Bool.false_ne_true] at hdo
        have hs : i.sgn = "+" := by simp [Ins.sgn, hg]
        have hq : (c + v % m) % m = (c + v) % m := by simp
        simp only [e_if, e_cB, e_c2, e_V, List.getElem?_cons_zero, List.getElem?_cons_succ, Rs.bind_ok, e_bor1, e_bor2, e_cC, hs, e_eq, e_data1, rsO_some, sh_str plus_ok, sh_str minus_ok, and_self, if_true, eqv_str, add_ne_sub, decide_false, Bool.false_eq_true, if_false, e_okB, e_asB, Rs.out_ok, e_nil, Out.then_nx, e_store, hx, e_addI, hp, e_mod, hm, e_toD1, hn, List.set_cons_succ, List.set_cons_zero, map_set_int, hq, hdo]
      | true =>
        rw [hg, if_pos rfl] at hdo
        have hs : i.sgn = "-" := by simp [Ins.sgn, hg]
        have hq : (c + -(v % m)) % m = (c - v) % m := by rw [← Int.sub_eq_add_neg]; simp
        simp only [e_if, e_cB, e_c2, e_c1, e_set, e_neg, e_putd, List.length_cons, List.length_nil, Nat.reduceAdd, Nat.reduceLT, e_V, List.getElem?_cons_zero, List.getElem?_cons_succ, Rs.bind_ok, e_bor1, e_bor2, e_cC, hs, e_eq, e_data1, rsO_some, sh_str minus_ok, and_self, if_true, eqv_str, decide_true, e_okB, e_asB, Rs.out_ok, Out.then_nx, e_store, hx, e_addI, hp, e_mod, hm, e_toD1, hn, List.set_cons_succ, List.set_cons_zero, map_set_int, hq, hdo]) ⟨none, none, none, none, none, none, rfl, hr, h2⟩
  show (sSeq _ _ [some (.d (progD m n st out)), some (.d (.list (code.map Ins.d))), some a, some b, none, none, none, none, none, none, none]).fin = _
  have s0 : sSet 4 (cA gListC (aC (cV 3) aN)) [some (.d (progD m n st out)), some (.d (.list (code.map Ins.d))), some a, some b, none, none, none, none, none, none, none] = .nx [some (.d (progD m n st out)), some (.d (.list (code.map Ins.d))), some a, some b, some (.ol (regs.map .int)), none, none, none, none, none, none] := by
    simp only [e_set, e_cA, e_aC, e_aN, e_V, List.getElem?_cons_zero, List.getElem?_cons_succ, Rs.bind_ok, hb.list, Rs.out_ok, e_puto, List.length_cons, List.length_nil, Nat.reduceAdd, Nat.reduceLT, if_true, List.set_cons_succ, List.set_cons_zero]
  rw [e_seq, s0, Out.then_nx, e_seq, e_for]
  simp only [e_iA, e_V, List.getElem?_cons_zero, List.getElem?_cons_succ, Rs.bind_ok, e_bor1, e_gAq2, Rs.out_ok, e1, Out.then_nx, e_retV, e_nb2, fin_rt]
  rfl
/-! ### machines -/
def mach (P C I S : PyData) (pos : Int) : List (Str × FV) := [("_program", .d P), ("_code", .d C), ("_inputs", .d I), ("_states", .d S), ("_position", .d (.int pos))]
theorem mn01 : ¬ (("_program" : Str) = "_code") := by decide +kernel
theorem mn02 : ¬ (("_program" : Str) = "_inputs") := by decide +kernel
theorem mn03 : ¬ (("_program" : Str) = "_states") := by decide +kernel
theorem mn04 : ¬ (("_program" : Str) = "_position") := by decide +kernel
theorem mn12 : ¬ (("_code" : Str) = "_inputs") := by decide +kernel
theorem mn13 : ¬ (("_code" : Str) = "_states") := by decide +kernel
theorem mn14 : ¬ (("_code" : Str) = "_position") := by decide +kernel
theorem mn23 : ¬ (("_inputs" : Str) = "_states") := by decide +kernel
theorem mn24 : ¬ (("_inputs" : Str) = "_position") := by decide +kernel
theorem mn34 : ¬ (("_states" : Str) = "_position") := by decide +kernel
section
variable (P C I S : PyData) (pos : Int)
theorem mach_program : (mach P C I S pos).lookup ("_program" : Str) = some (.d P) := by unfold mach; rw [look_cons, if_pos rfl]
theorem mach_code : (mach P C I S pos).lookup ("_code" : Str) = some (.d C) := by unfold mach; rw [look_cons, if_neg mn01, look_cons, if_pos rfl]
theorem mach_inputs : (mach P C I S pos).lookup ("_inputs" : Str) = some (.d I) := by unfold mach; rw [look_cons, if_neg mn02, look_cons, if_neg mn12, look_cons, if_pos rfl]
theorem mach_states : (mach P C I S pos).lookup ("_states" : Str) = some (.d S) := by unfold mach; rw [look_cons, if_neg mn03, look_cons, if_neg mn13, look_cons, if_neg mn23, look_cons, if_pos rfl]
theorem mach_position : (mach P C I S pos).lookup ("_position" : Str) = some (.d (.int pos)) := by unfold mach; rw [look_cons, if_neg mn04, look_cons, if_neg mn14, look_cons, if_neg mn24, look_cons, if_neg mn34, look_cons, if_pos rfl]
theorem mach_move (q : Int) : putFV "_position" (.d (.int q)) (mach P C I S pos) = mach P C I S q := by
  unfold mach
  rw [putFV_cons, if_neg mn04, putFV_cons, if_neg mn14, putFV_cons, if_neg mn24, putFV_cons, if_neg mn34, putFV_cons, if_pos rfl]
theorem mach_len : (mach P C I S pos).length ≤ 900 := by show 5 ≤ 900; omega
theorem mach_no {m : Str} (h0 : ¬ ("_program" : Str) = m) (h1 : ¬ ("_code" : Str) = m) (h2 : ¬ ("_inputs" : Str) = m) (h3 : ¬ ("_states" : Str) = m) (h4 : ¬ ("_position" : Str) = m) : (mach P C I S pos).lookup m = none := by
  unfold mach
  rw [look_cons, if_neg h0, look_cons, if_neg h1, look_cons, if_neg h2, look_cons, if_neg h3, look_cons, if_neg h4, look_nil]
theorem mach_fwd : (mach P C I S pos).lookup ("forward" : Str) = none := mach_no _ _ _ _ _ (by decide +kernel) (by decide +kernel) (by decide +kernel) (by decide +kernel) (by decide +kernel)
theorem mach_bwd : (mach P C I S pos).lookup ("backward" : Str) = none := mach_no _ _ _ _ _ (by decide +kernel) (by decide +kernel) (by decide +kernel) (by decide +kernel) (by decide +kernel)
end
/-! ### what a machine does -/
def rowZ : List Int := List.replicate 8 0
def stateM (m : Int) (ins : List Int) (cs : List Ins) (k : Nat) : List Int := runM m ins (cs.take k) rowZ
def statesM (m : Int) (ins : List Int) (cs : List Ins) : List (List Int) := (List.range (cs.length + 1)).map fun k => stateM m ins cs k
def rowD (r : List Int) : PyData := .list (r.map .int)
theorem row0 : (List.replicate 8 [PyData.int 0]).flatten = rowZ.map .int := rfl
theorem rowZ_regs {m : Int} (hm : 0 < m) : Regs m rowZ := ⟨fun x hx => by
  have : x = 0 := List.eq_of_mem_replicate hx
  omega⟩
theorem state_ok {m : Int} (hm : 0 < m) (ins : List Int) (cs : List Ins) : (runM m ins cs rowZ).length = 8 ∧ Regs m (runM m ins cs rowZ) := by
  have go : ∀ (cs : List Ins) (r : List Int), r.length = 8 → Regs m r → (runM m ins cs r).length = 8 ∧ Regs m (runM m ins cs r) := by
    intro cs
    induction cs with
    | nil => intro r h1 h2; exact ⟨h1, h2⟩
    | cons i cs ih => intro r h1 h2; exact ih _ (by rw [Ins.do_len]; exact h1) (Ins.do_regs hm h2 i)
  exact go cs rowZ rfl (rowZ_regs hm)
theorem state_succ {m : Int} {ins : List Int} {cs : List Ins} {k : Nat} {i : Ins} (h : cs[k]? = some i) : stateM m ins cs (k + 1) = i.do m ins (stateM m ins cs k) := by
  unfold stateM runM
  rw [List.take_add_one, h, List.foldl_append]
  rfl
theorem traced_ok {m n : Int} {st out : PyData} (hm : 0 < m) (hm2 : m ≤ 1000) {k : Nat} (cs : List Ins) (hc : ∀ i ∈ cs, i.ok k) (hl : cs.length ≤ 1000) {a c : RV} {ins : List Int} (ha : Ls a ins) (hcc : c = .bl (cs.map Ins.d) ∨ c = .d (.list (cs.map Ins.d))) (hi : ins.length = k) (h1 : Regs m ins) :
    F_traced [.d (progD m n st out), c, a] = .ok (.ol ((statesM m ins cs).map rowD)) := by
  have hcb : c.bor = c := by rcases hcc with rfl | rfl <;> rfl
  obtain ⟨env', e1, j4, rfl⟩ := loopF_ex (tg := .nm 4) (f := L0_traced) (fun i env => ∃ j4, env = [some (.d (progD m n st out)), some c, some a, some (.ol ((List.range (i + 1)).map fun k => rowD (stateM m ins cs k))), j4]) Ins.d cs
    [some (.d (progD m n st out)), some c, some a, some (.ol [rowD rowZ]), none] (by
      rintro j env i hx ⟨j4, rfl⟩
      have hj := (List.getElem?_eq_some_iff.mp hx).1
      obtain ⟨hs1, hs2⟩ := state_ok hm ins (cs.take j)
      have hp := performed_ok (n := n) (st := st) (out := out) hm hm2 i (hc i (List.mem_of_getElem? hx)) ha (b := .d (rowD (stateM m ins cs j))) (.inl rfl) hi hs1 h1 hs2
      refine ⟨[some (.d (progD m n st out)), some c, some a, some (.ol ((List.range (j + 1)).map fun k => rowD (stateM m ins cs k))), some (.d i.d)], rfl, [some (.d (progD m n st out)), some c, some a, some (.ol ((List.range (j + 1 + 1)).map fun k => rowD (stateM m ins cs k))), some (.d i.d)], .inl ?_, _, rfl⟩
      have hlen : ((List.range (j + 1)).map fun k => rowD (stateM m ins cs k)).length = j + 1 := by rw [List.length_map, List.length_range]
      have hat : atI ((List.range (j + 1)).map fun k => rowD (stateM m ins cs k)) (-1) = some (rowD (stateM m ins cs j)) := by
        rw [List.range_succ, List.map_append]
        exact e_atm _ _
      have hnext : ((List.range (j + 1)).map fun k => rowD (stateM m ins cs k)) ++ [rowD (i.do m ins (stateM m ins cs j))] = (List.range (j + 1 + 1)).map fun k => rowD (stateM m ins cs k) := by
        rw [List.range_succ (n := j + 1), List.map_append, List.map_singleton, state_succ hx]
      have hz : j + 1 ≤ 1000000 := by omega
      have hag := ha.arg
      have hab : a.bor = a := by rcases ha with rfl | rfl <;> rfl
      have hca : c.arg = c := by rcases hcc with rfl | rfl <;> rfl
      have haa : a.arg = a := by rcases ha with rfl | rfl <;> rfl
      have hp : F_performed [.d (progD m n st out), .d i.d, a, .d (rowD (stateM m ins cs j))] = .ok (.ol ((i.do m ins (stateM m ins cs j)).map .int)) := hp
      have hz : j ≤ 999999 := by omega
      have hat : atI ((List.range (j + 1)).map fun k => rowD (stateM m ins cs k)) (-1) = some (PyData.list ((stateM m ins cs j).map .int)) := hat
      simp only [rowD] at hp
      have hnext' : ((List.range (j + 1)).map fun k => rowD (stateM m ins cs k)) ++ [PyData.list ((i.do m ins (stateM m ins cs j)).map .int)] = (List.range (j + 1 + 1)).map fun k => rowD (stateM m ins cs k) := hnext
      rw [← hnext']
      clear hnext hnext'
      generalize ((List.range (j + 1)).map fun k => rowD (stateM m ins cs k)) = ST at *
      generalize stateM m ins cs j = SJ at *
      unfold L0_traced
      simp only [e_nil, e_seq, e_fz, e_bk, e_ct, e_ret, e_retN, e_drop, e_set, e_if, e_for, e_cC, e_c2, e_c1, e_cA, e_aN, e_aC, e_cB, e_asB, e_bNot, e_bAnd, e_bOr, e_vAnd, e_vOr, e_vNot, e_vIf, e_bYes, e_iL, e_iT, e_iLb, e_iR, e_gL1, e_gL2, e_gL3, e_gT, e_gLb1, e_gLb2, e_gLb3, e_gLb4, e_nb1, e_nb2, e_bor1, e_bor2, e_bor3, e_bor4, e_arg1, e_arg2, e_arg3, e_arg4, e_putd, e_puto, e_toD1, e_toD2, e_allD0, e_allD1, e_allD2, e_gTupl, e_gList, e_tgnm, e_tgtp, e_tg0, e_tg1, e_sq1, e_sq2, e_sq3, e_sq4, e_sq5, e_qv2, e_qv3, e_qv4, e_qv5, e_data1, e_data2, e_data3, e_okI, e_okB, e_i2, e_sub, e_mul, e_mod, e_div, e_pow, e_lt, e_le, e_gt, e_ge, e_neg, e_addI, e_addS, e_addT, e_addL1, e_addL2, e_addL3, e_addL4, e_addL5, e_addL6, e_addL7, e_addL8, e_addL9, e_eq, e_ne, e_in, e_notIn, e_inT, e_inT2, e_inL1, e_inL2, e_inL3, e_is, e_isNot, e_isN1, e_isN2, e_isN3, e_isN4, e_isN5, e_isN6, e_isN7, e_ixT, e_ixL, e_ixO, e_ixB, e_ixSc, e_lenT, e_lenL, e_lenO, e_lenB, e_lenSc, e_lenS, e_tupT, e_tupL, e_tupO, e_tupB, e_lisT, e_lisL, e_lisO, e_lisB, e_min2, e_max2, e_any, e_all, e_sum, e_sorted, e_rev, e_sl, e_oN, e_isi, e_lc, e_wipe0, e_wipe1, e_iA, e_iAb, e_gAq1, e_gAq2, e_gAq3, e_gAqb1, e_gAqb2, e_gAqb3, e_gAqb4, e_no, e_cCh, e_cChI, e_aug, e_decT, e_decF, e_cDispS, e_cDT, e_cDK, e_cDisp1, e_storeA, e_stR1, e_stR2, e_stR3, e_sd1, e_keyD1, e_keyD2, e_keyTD, e_intsD, e_intsD0, e_borT, e_borT2, e_borK, e_borK2, e_argT, e_argT2, e_argK, e_argK2, e_nbT, e_nbK, e_putT, e_putK, e_gAt1, e_gAt2, e_gAt3, e_gAt4, e_gGetDK, e_gGetDT, e_gIxD, e_gInD, e_gNotInD, e_cGet1, e_cGet2, e_dk1, e_dk2, e_dk3, e_dk4, e_dt1, e_dt2, e_del, atI_zero, e_at1, e_at2, e_at3, e_at4, e_at5, e_at6, e_at7, e_at8, e_at9, e_atm, e_V, e_retV, e_unp, e_app, e_store, e_fzE, oS, rsO_some, Rs.bind_ok, Rs.bind_no, Rs.out_ok, Out.then_nx, Out.then_rt, Out.then_ct, Out.then_bk, fin_rt, fin_nx, List.getElem?_cons_zero, List.getElem?_cons_succ, List.set_cons_succ, List.set_cons_zero, List.length_cons, List.length_nil, Nat.reduceAdd, Nat.reduceLT, Nat.reduceLeDiff, Nat.reduceEqDiff, if_true, if_false, Bool.false_eq_true, Bool.not_true, Bool.not_false, and_self, true_and, and_true, List.map_cons, List.map_nil, Option.map_some, sh_int, sh_bool, sh_none, sh_tup, sh_lst, eqv_int, reduceIte, Option.bind_some, Option.bind_none, kitB_ll, kitB_lt, kitB_tt, kitB_tl, kitB_ii, tyD_list, tyD_int, Bool.true_and, Bool.false_and, Bool.and_true, Bool.and_false, Bool.or_true, Bool.true_or, Bool.false_or, Bool.or_false, Bool.and_self, Bool.or_self, e_cAK, List.append_nil, List.nil_append, List.cons_append, e_andB, e_orB, e_andR, e_orR, tyD_tuple, eqv_bool, eqv_none, tyD_bool, tyD_str, tyD_none, kitB_bb, kitB_nb, kitB_bi, kitB_ib, kitB_nl, kitB_nt, beq_self_eq_true, e_app, hab, haa, hat, hlen, if_pos hz, hp, e_toL]) ⟨none, rfl⟩
  show (B_traced [some (.d (progD m n st out)), some c, some a, none, none]).fin = _
  have hrep : gRep (.ol [.int 0]) (.d (.int 8)) = .ok (.ol (rowZ.map .int)) := rfl
  have hI : sForB (.nm 4) 1 L0_traced [some (.d (progD m n st out)), some c, some a, some (.ol [rowD rowZ]), none] = loopF (.nm 4) L0_traced (cs.map Ins.d) [some (.d (progD m n st out)), some c, some a, some (.ol [rowD rowZ]), none] := by
    rcases hcc with rfl | rfl <;> rfl
  have hfin : (statesM m ins cs).map rowD = (List.range (cs.length + 1)).map fun k => rowD (stateM m ins cs k) := by unfold statesM; rw [List.map_map]; rfl
  rw [hfin]
  unfold B_traced
  generalize ((List.range (cs.length + 1)).map fun k => rowD (stateM m ins cs k)) = RS at *
  simp only [rowD] at hI e1
  simp only [e_nil, e_seq, e_fz, e_bk, e_ct, e_ret, e_retN, e_drop, e_set, e_if, e_for, e_cC, e_c2, e_c1, e_cA, e_aN, e_aC, e_cB, e_asB, e_bNot, e_bAnd, e_bOr, e_vAnd, e_vOr, e_vNot, e_vIf, e_bYes, e_iL, e_iT, e_iLb, e_iR, e_gL1, e_gL2, e_gL3, e_gT, e_gLb1, e_gLb2, e_gLb3, e_gLb4, e_nb1, e_nb2, e_bor1, e_bor2, e_bor3, e_bor4, e_arg1, e_arg2, e_arg3, e_arg4, e_putd, e_puto, e_toD1, e_toD2, e_allD0, e_allD1, e_allD2, e_gTupl, e_gList, e_tgnm, e_tgtp, e_tg0, e_tg1, e_sq1, e_sq2, e_sq3, e_sq4, e_sq5, e_qv2, e_qv3, e_qv4, e_qv5, e_data1, e_data2, e_data3, e_okI, e_okB, e_i2, e_sub, e_mul, e_mod, e_div, e_pow, e_lt, e_le, e_gt, e_ge, e_neg, e_addI, e_addS, e_addT, e_addL1, e_addL2, e_addL3, e_addL4, e_addL5, e_addL6, e_addL7, e_addL8, e_addL9, e_eq, e_ne, e_in, e_notIn, e_inT, e_inT2, e_inL1, e_inL2, e_inL3, e_is, e_isNot, e_isN1, e_isN2, e_isN3, e_isN4, e_isN5, e_isN6, e_isN7, e_ixT, e_ixL, e_ixO, e_ixB, e_ixSc, e_lenT, e_lenL, e_lenO, e_lenB, e_lenSc, e_lenS, e_tupT, e_tupL, e_tupO, e_tupB, e_lisT, e_lisL, e_lisO, e_lisB, e_min2, e_max2, e_any, e_all, e_sum, e_sorted, e_rev, e_sl, e_oN, e_isi, e_lc, e_wipe0, e_wipe1, e_iA, e_iAb, e_gAq1, e_gAq2, e_gAq3, e_gAqb1, e_gAqb2, e_gAqb3, e_gAqb4, e_no, e_cCh, e_cChI, e_aug, e_decT, e_decF, e_cDispS, e_cDT, e_cDK, e_cDisp1, e_storeA, e_stR1, e_stR2, e_stR3, e_sd1, e_keyD1, e_keyD2, e_keyTD, e_intsD, e_intsD0, e_borT, e_borT2, e_borK, e_borK2, e_argT, e_argT2, e_argK, e_argK2, e_nbT, e_nbK, e_putT, e_putK, e_gAt1, e_gAt2, e_gAt3, e_gAt4, e_gGetDK, e_gGetDT, e_gIxD, e_gInD, e_gNotInD, e_cGet1, e_cGet2, e_dk1, e_dk2, e_dk3, e_dk4, e_dt1, e_dt2, e_del, atI_zero, e_at1, e_at2, e_at3, e_at4, e_at5, e_at6, e_at7, e_at8, e_at9, e_atm, e_V, e_retV, e_unp, e_app, e_store, e_fzE, oS, rsO_some, Rs.bind_ok, Rs.bind_no, Rs.out_ok, Out.then_nx, Out.then_rt, Out.then_ct, Out.then_bk, fin_rt, fin_nx, List.getElem?_cons_zero, List.getElem?_cons_succ, List.set_cons_succ, List.set_cons_zero, List.length_cons, List.length_nil, Nat.reduceAdd, Nat.reduceLT, Nat.reduceLeDiff, Nat.reduceEqDiff, if_true, if_false, Bool.false_eq_true, Bool.not_true, Bool.not_false, and_self, true_and, and_true, List.map_cons, List.map_nil, Option.map_some, sh_int, sh_bool, sh_none, sh_tup, sh_lst, eqv_int, reduceIte, Option.bind_some, Option.bind_none, kitB_ll, kitB_lt, kitB_tt, kitB_tl, kitB_ii, tyD_list, tyD_int, Bool.true_and, Bool.false_and, Bool.and_true, Bool.and_false, Bool.or_true, Bool.true_or, Bool.false_or, Bool.or_false, Bool.and_self, Bool.or_self, e_cAK, List.append_nil, List.nil_append, List.cons_append, e_andB, e_orB, e_andR, e_orR, tyD_tuple, eqv_bool, eqv_none, tyD_bool, tyD_str, tyD_none, kitB_bb, kitB_nb, kitB_bi, kitB_ib, kitB_nl, kitB_nt, beq_self_eq_true, hrep, hI, e1, e_toL]
section
variable {m n : Int} {st out : PyData} {cs : List Ins} {ins : List Int}
theorem states_len : ((statesM m ins cs).map rowD).length = cs.length + 1 := by unfold statesM; rw [List.length_map, List.length_map, List.length_range]
theorem states_at {k : Nat} (hk : k ≤ cs.length) : atI ((statesM m ins cs).map rowD) (k : Int) = some (.list ((stateM m ins cs k).map .int)) := by
  rw [atI_cons _ _ (by rw [states_len]; omega)]
  unfold statesM
  rw [List.getElem?_map, List.getElem?_map, List.getElem?_range (by omega)]
  rfl
theorem init_ok (hm : 0 < m) (hm2 : m ≤ 1000) {k : Nat} (hc : ∀ i ∈ cs, i.ok k) (hl : cs.length ≤ 1000) {a c : RV} (ha : Ls a ins) (hcc : c = .bl (cs.map Ins.d) ∨ c = .d (.list (cs.map Ins.d))) (hi : ins.length = k) (h1 : Regs m ins) :
    F_Machine___init__ [.ob true "Machine" [], .d (progD m n st out), c, a] = .ok "Machine" (mach (progD m n st out) (.list (cs.map Ins.d)) (.list (ins.map .int)) (.list ((statesM m ins cs).map rowD)) 0) .none := by
  have tr := traced_ok (n := n) (st := st) (out := out) hm hm2 cs hc hl ha hcc hi h1
  have hcb : c.bor = c := by rcases hcc with rfl | rfl <;> rfl
  have hca : c.arg = c := by rcases hcc with rfl | rfl <;> rfl
  have hab : a.bor = a := by rcases ha with rfl | rfl <;> rfl
  have haa : a.arg = a := by rcases ha with rfl | rfl <;> rfl
  have lc : gListC [c] = .ok (.ol (cs.map Ins.d)) := by rcases hcc with rfl | rfl <;> rfl
  have la : gListC [a] = .ok (.ol (ins.map .int)) := by rcases ha with rfl | rfl <;> rfl
  have z : ∀ k : Nat, k ≤ 5 → k ≤ 900 := fun k h => by omega
  show (B_Machine___init__ [some (.ob true "Machine" []), some (.d (progD m n st out)), some c, some a]).finM = _
  unfold B_Machine___init__ mach
  generalize (statesM m ins cs).map rowD = SS at *
  generalize cs.map Ins.d = CC at *
  generalize ins.map PyData.int = II at *
  generalize progD m n st out = PP at *
  simp only [e_nil, e_seq, e_fz, e_bk, e_ct, e_ret, e_retN, e_drop, e_set, e_if, e_for, e_cC, e_c2, e_c1, e_cA, e_aN, e_aC, e_cB, e_asB, e_bNot, e_bAnd, e_bOr, e_vAnd, e_vOr, e_vNot, e_vIf, e_bYes, e_iL, e_iT, e_iLb, e_iR, e_gL1, e_gL2, e_gL3, e_gT, e_gLb1, e_gLb2, e_gLb3, e_gLb4, e_nb1, e_nb2, e_bor1, e_bor2, e_bor3, e_bor4, e_arg1, e_arg2, e_arg3, e_arg4, e_putd, e_puto, e_toD1, e_toD2, e_allD0, e_allD1, e_allD2, e_gTupl, e_gList, e_tgnm, e_tgtp, e_tg0, e_tg1, e_sq1, e_sq2, e_sq3, e_sq4, e_sq5, e_qv2, e_qv3, e_qv4, e_qv5, e_data1, e_data2, e_data3, e_okI, e_okB, e_i2, e_sub, e_mul, e_mod, e_div, e_pow, e_lt, e_le, e_gt, e_ge, e_neg, e_addI, e_addS, e_addT, e_addL1, e_addL2, e_addL3, e_addL4, e_addL5, e_addL6, e_addL7, e_addL8, e_addL9, e_eq, e_ne, e_in, e_notIn, e_inT, e_inT2, e_inL1, e_inL2, e_inL3, e_is, e_isNot, e_isN1, e_isN2, e_isN3, e_isN4, e_isN5, e_isN6, e_isN7, e_ixT, e_ixL, e_ixO, e_ixB, e_ixSc, e_lenT, e_lenL, e_lenO, e_lenB, e_lenSc, e_lenS, e_tupT, e_tupL, e_tupO, e_tupB, e_lisT, e_lisL, e_lisO, e_lisB, e_min2, e_max2, e_any, e_all, e_sum, e_sorted, e_rev, e_sl, e_oN, e_isi, e_lc, e_wipe0, e_wipe1, e_iA, e_iAb, e_gAq1, e_gAq2, e_gAq3, e_gAqb1, e_gAqb2, e_gAqb3, e_gAqb4, e_no, e_cCh, e_cChI, e_aug, e_decT, e_decF, e_cDispS, e_cDT, e_cDK, e_cDisp1, e_storeA, e_stR1, e_stR2, e_stR3, e_sd1, e_keyD1, e_keyD2, e_keyTD, e_intsD, e_intsD0, e_borT, e_borT2, e_borK, e_borK2, e_argT, e_argT2, e_argK, e_argK2, e_nbT, e_nbK, e_putT, e_putK, e_gAt1, e_gAt2, e_gAt3, e_gAt4, e_gGetDK, e_gGetDT, e_gIxD, e_gInD, e_gNotInD, e_cGet1, e_cGet2, e_dk1, e_dk2, e_dk3, e_dk4, e_dt1, e_dt2, e_del, atI_zero, e_at1, e_at2, e_at3, e_at4, e_at5, e_at6, e_at7, e_at8, e_at9, e_atm, e_V, e_retV, e_unp, e_app, e_store, e_fzE, oS, rsO_some, Rs.bind_ok, Rs.bind_no, Rs.out_ok, Out.then_nx, Out.then_rt, Out.then_ct, Out.then_bk, fin_rt, fin_nx, List.getElem?_cons_zero, List.getElem?_cons_succ, List.set_cons_succ, List.set_cons_zero, List.length_cons, List.length_nil, Nat.reduceAdd, Nat.reduceLT, Nat.reduceLeDiff, Nat.reduceEqDiff, if_true, if_false, Bool.false_eq_true, Bool.not_true, Bool.not_false, and_self, true_and, and_true, List.map_cons, List.map_nil, Option.map_some, sh_int, sh_bool, sh_none, sh_tup, sh_lst, eqv_int, reduceIte, Option.bind_some, Option.bind_none, kitB_ll, kitB_lt, kitB_tt, kitB_tl, kitB_ii, tyD_list, tyD_int, Bool.true_and, Bool.false_and, Bool.and_true, Bool.and_false, Bool.or_true, Bool.true_or, Bool.false_or, Bool.or_false, Bool.and_self, Bool.or_self, e_cAK, List.append_nil, List.nil_append, List.cons_append, e_andB, e_orB, e_andR, e_orR, tyD_tuple, eqv_bool, eqv_none, tyD_bool, tyD_str, tyD_none, kitB_bb, kitB_nb, kitB_bi, kitB_ib, kitB_nl, kitB_nt, beq_self_eq_true, e_fldS, e_fld, e_obO, e_obB, e_fvd, e_fvl, e_fvF, e_toD, e_toL, e_retS, e_rmO, e_finM, e_finN, e_prop, e_okR, e_M, e_setM, e_appT, e_arO, e_boO, e_mCall, e_MF, e_plainD, e_pbD, e_pbB, e_mkO, e_MP, e_fapp, e_fvO, e_dropM, e_ifM, e_retM, e_retNS, e_m2, e_mB, e_mPT, e_mNot, e_mOr, e_nbo, Out.then_rm, MO.out_ok, MO.out_ex, MO.bind_ok, Rs.mo_ok, Option.map_some, and_self, if_true, true_and, and_true, List.all_cons, List.all_nil, Bool.and_true, putFV_nil, e_fldS, e_fvF, e_toD, e_toL, hcb, hca, hab, haa, lc, la, tr, putFV_nil, putFV_cons, if_neg mn01, if_neg mn02, if_neg mn03, if_neg mn04, if_neg mn12, if_neg mn13, if_neg mn14, if_neg mn23, if_neg mn24, if_neg mn34, Option.map_some, List.length_cons, List.length_nil, Nat.reduceAdd, Nat.reduceLeDiff]
variable (P I S : PyData) (C : List PyData)
theorem position_ok (pos : Int) : F_Machine_position [.bo "Machine" (mach P (.list C) I S pos)] = .ok (.d (.int pos)) := by
  show (B_Machine_position [some (.bo "Machine" (mach P (.list C) I S pos))]).fin = _
  have h := mach_position P (.list C) I S pos
  unfold B_Machine_position
  generalize mach P (.list C) I S pos = M at *
  simp only [e_nil, e_seq, e_fz, e_bk, e_ct, e_ret, e_retN, e_drop, e_set, e_if, e_for, e_cC, e_c2, e_c1, e_cA, e_aN, e_aC, e_cB, e_asB, e_bNot, e_bAnd, e_bOr, e_vAnd, e_vOr, e_vNot, e_vIf, e_bYes, e_iL, e_iT, e_iLb, e_iR, e_gL1, e_gL2, e_gL3, e_gT, e_gLb1, e_gLb2, e_gLb3, e_gLb4, e_nb1, e_nb2, e_bor1, e_bor2, e_bor3, e_bor4, e_arg1, e_arg2, e_arg3, e_arg4, e_putd, e_puto, e_toD1, e_toD2, e_allD0, e_allD1, e_allD2, e_gTupl, e_gList, e_tgnm, e_tgtp, e_tg0, e_tg1, e_sq1, e_sq2, e_sq3, e_sq4, e_sq5, e_qv2, e_qv3, e_qv4, e_qv5, e_data1, e_data2, e_data3, e_okI, e_okB, e_i2, e_sub, e_mul, e_mod, e_div, e_pow, e_lt, e_le, e_gt, e_ge, e_neg, e_addI, e_addS, e_addT, e_addL1, e_addL2, e_addL3, e_addL4, e_addL5, e_addL6, e_addL7, e_addL8, e_addL9, e_eq, e_ne, e_in, e_notIn, e_inT, e_inT2, e_inL1, e_inL2, e_inL3, e_is, e_isNot, e_isN1, e_isN2, e_isN3, e_isN4, e_isN5, e_isN6, e_isN7, e_ixT, e_ixL, e_ixO, e_ixB, e_ixSc, e_lenT, e_lenL, e_lenO, e_lenB, e_lenSc, e_lenS, e_tupT, e_tupL, e_tupO, e_tupB, e_lisT, e_lisL, e_lisO, e_lisB, e_min2, e_max2, e_any, e_all, e_sum, e_sorted, e_rev, e_sl, e_oN, e_isi, e_lc, e_wipe0, e_wipe1, e_iA, e_iAb, e_gAq1, e_gAq2, e_gAq3, e_gAqb1, e_gAqb2, e_gAqb3, e_gAqb4, e_no, e_cCh, e_cChI, e_aug, e_decT, e_decF, e_cDispS, e_cDT, e_cDK, e_cDisp1, e_storeA, e_stR1, e_stR2, e_stR3, e_sd1, e_keyD1, e_keyD2, e_keyTD, e_intsD, e_intsD0, e_borT, e_borT2, e_borK, e_borK2, e_argT, e_argT2, e_argK, e_argK2, e_nbT, e_nbK, e_putT, e_putK, e_gAt1, e_gAt2, e_gAt3, e_gAt4, e_gGetDK, e_gGetDT, e_gIxD, e_gInD, e_gNotInD, e_cGet1, e_cGet2, e_dk1, e_dk2, e_dk3, e_dk4, e_dt1, e_dt2, e_del, atI_zero, e_at1, e_at2, e_at3, e_at4, e_at5, e_at6, e_at7, e_at8, e_at9, e_atm, e_V, e_retV, e_unp, e_app, e_store, e_fzE, oS, rsO_some, Rs.bind_ok, Rs.bind_no, Rs.out_ok, Out.then_nx, Out.then_rt, Out.then_ct, Out.then_bk, fin_rt, fin_nx, List.getElem?_cons_zero, List.getElem?_cons_succ, List.set_cons_succ, List.set_cons_zero, List.length_cons, List.length_nil, Nat.reduceAdd, Nat.reduceLT, Nat.reduceLeDiff, Nat.reduceEqDiff, if_true, if_false, Bool.false_eq_true, Bool.not_true, Bool.not_false, and_self, true_and, and_true, List.map_cons, List.map_nil, Option.map_some, sh_int, sh_bool, sh_none, sh_tup, sh_lst, eqv_int, reduceIte, Option.bind_some, Option.bind_none, kitB_ll, kitB_lt, kitB_tt, kitB_tl, kitB_ii, tyD_list, tyD_int, Bool.true_and, Bool.false_and, Bool.and_true, Bool.and_false, Bool.or_true, Bool.true_or, Bool.false_or, Bool.or_false, Bool.and_self, Bool.or_self, e_cAK, List.append_nil, List.nil_append, List.cons_append, e_andB, e_orB, e_andR, e_orR, tyD_tuple, eqv_bool, eqv_none, tyD_bool, tyD_str, tyD_none, kitB_bb, kitB_nb, kitB_bi, kitB_ib, kitB_nl, kitB_nt, beq_self_eq_true, e_fldS, e_fld, e_obO, e_obB, e_fvd, e_fvl, e_fvF, e_toD, e_toL, e_retS, e_rmO, e_finM, e_finN, e_prop, e_okR, e_M, e_setM, e_appT, e_arO, e_boO, e_mCall, e_MF, e_plainD, e_pbD, e_pbB, e_mkO, e_MP, e_fapp, e_fvO, e_dropM, e_ifM, e_retM, e_retNS, e_m2, e_mB, e_mPT, e_mNot, e_mOr, e_nbo, Out.then_rm, MO.out_ok, MO.out_ex, MO.bind_ok, Rs.mo_ok, Option.map_some, and_self, if_true, true_and, and_true, List.all_cons, List.all_nil, Bool.and_true, putFV_nil, e_fld, e_obB, h, e_fvd]
theorem registers_ok (S : List PyData) (pos : Int) (r : List Int) (hr : atI S pos = some (.list (r.map .int))) : F_Machine_registers [.bo "Machine" (mach P (.list C) I (.list S) pos)] = .ok (.ol (r.map .int)) := by
  show (B_Machine_registers [some (.bo "Machine" (mach P (.list C) I (.list S) pos))]).fin = _
  have h := mach_position P (.list C) I (.list S) pos
  have h2 := mach_states P (.list C) I (.list S) pos
  unfold B_Machine_registers
  generalize mach P (.list C) I (.list S) pos = M at *
  generalize r.map PyData.int = R at *
  simp only [e_nil, e_seq, e_fz, e_bk, e_ct, e_ret, e_retN, e_drop, e_set, e_if, e_for, e_cC, e_c2, e_c1, e_cA, e_aN, e_aC, e_cB, e_asB, e_bNot, e_bAnd, e_bOr, e_vAnd, e_vOr, e_vNot, e_vIf, e_bYes, e_iL, e_iT, e_iLb, e_iR, e_gL1, e_gL2, e_gL3, e_gT, e_gLb1, e_gLb2, e_gLb3, e_gLb4, e_nb1, e_nb2, e_bor1, e_bor2, e_bor3, e_bor4, e_arg1, e_arg2, e_arg3, e_arg4, e_putd, e_puto, e_toD1, e_toD2, e_allD0, e_allD1, e_allD2, e_gTupl, e_gList, e_tgnm, e_tgtp, e_tg0, e_tg1, e_sq1, e_sq2, e_sq3, e_sq4, e_sq5, e_qv2, e_qv3, e_qv4, e_qv5, e_data1, e_data2, e_data3, e_okI, e_okB, e_i2, e_sub, e_mul, e_mod, e_div, e_pow, e_lt, e_le, e_gt, e_ge, e_neg, e_addI, e_addS, e_addT, e_addL1, e_addL2, e_addL3, e_addL4, e_addL5, e_addL6, e_addL7, e_addL8, e_addL9, e_eq, e_ne, e_in, e_notIn, e_inT, e_inT2, e_inL1, e_inL2, e_inL3, e_is, e_isNot, e_isN1, e_isN2, e_isN3, e_isN4, e_isN5, e_isN6, e_isN7, e_ixT, e_ixL, e_ixO, e_ixB, e_ixSc, e_lenT, e_lenL, e_lenO, e_lenB, e_lenSc, e_lenS, e_tupT, e_tupL, e_tupO, e_tupB, e_lisT, e_lisL, e_lisO, e_lisB, e_min2, e_max2, e_any, e_all, e_sum, e_sorted, e_rev, e_sl, e_oN, e_isi, e_lc, e_wipe0, e_wipe1, e_iA, e_iAb, e_gAq1, e_gAq2, e_gAq3, e_gAqb1, e_gAqb2, e_gAqb3, e_gAqb4, e_no, e_cCh, e_cChI, e_aug, e_decT, e_decF, e_cDispS, e_cDT, e_cDK, e_cDisp1, e_storeA, e_stR1, e_stR2, e_stR3, e_sd1, e_keyD1, e_keyD2, e_keyTD, e_intsD, e_intsD0, e_borT, e_borT2, e_borK, e_borK2, e_argT, e_argT2, e_argK, e_argK2, e_nbT, e_nbK, e_putT, e_putK, e_gAt1, e_gAt2, e_gAt3, e_gAt4, e_gGetDK, e_gGetDT, e_gIxD, e_gInD, e_gNotInD, e_cGet1, e_cGet2, e_dk1, e_dk2, e_dk3, e_dk4, e_dt1, e_dt2, e_del, atI_zero, e_at1, e_at2, e_at3, e_at4, e_at5, e_at6, e_at7, e_at8, e_at9, e_atm, e_V, e_retV, e_unp, e_app, e_store, e_fzE, oS, rsO_some, Rs.bind_ok, Rs.bind_no, Rs.out_ok, Out.then_nx, Out.then_rt, Out.then_ct, Out.then_bk, fin_rt, fin_nx, List.getElem?_cons_zero, List.getElem?_cons_succ, List.set_cons_succ, List.set_cons_zero, List.length_cons, List.length_nil, Nat.reduceAdd, Nat.reduceLT, Nat.reduceLeDiff, Nat.reduceEqDiff, if_true, if_false, Bool.false_eq_true, Bool.not_true, Bool.not_false, and_self, true_and, and_true, List.map_cons, List.map_nil, Option.map_some, sh_int, sh_bool, sh_none, sh_tup, sh_lst, eqv_int, reduceIte, Option.bind_some, Option.bind_none, kitB_ll, kitB_lt, kitB_tt, kitB_tl, kitB_ii, tyD_list, tyD_int, Bool.true_and, Bool.false_and, Bool.and_true, Bool.and_false, Bool.or_true, Bool.true_or, Bool.false_or, Bool.or_false, Bool.and_self, Bool.or_self, e_cAK, List.append_nil, List.nil_append, List.cons_append, e_andB, e_orB, e_andR, e_orR, tyD_tuple, eqv_bool, eqv_none, tyD_bool, tyD_str, tyD_none, kitB_bb, kitB_nb, kitB_bi, kitB_ib, kitB_nl, kitB_nt, beq_self_eq_true, e_fldS, e_fld, e_obO, e_obB, e_fvd, e_fvl, e_fvF, e_toD, e_toL, e_retS, e_rmO, e_finM, e_finN, e_prop, e_okR, e_M, e_setM, e_appT, e_arO, e_boO, e_mCall, e_MF, e_plainD, e_pbD, e_pbB, e_mkO, e_MP, e_fapp, e_fvO, e_dropM, e_ifM, e_retM, e_retNS, e_m2, e_mB, e_mPT, e_mNot, e_mOr, e_nbo, Out.then_rm, MO.out_ok, MO.out_ex, MO.bind_ok, Rs.mo_ok, Option.map_some, and_self, if_true, true_and, and_true, List.all_cons, List.all_nil, Bool.and_true, putFV_nil, e_fld, e_obB, h, h2, e_fvd, hr]
theorem forward_ok (pos : Nat) (hp : pos ≤ C.length) (hC : C.length ≤ 1000) : F_Machine_forward [.ob true "Machine" (mach P (.list C) I S (pos : Int))] = match C[pos]? with
    | some i => .ok "Machine" (mach P (.list C) I S ((pos + 1 : Nat) : Int)) i
    | none => .ok "Machine" (mach P (.list C) I S (pos : Int)) .none := by
  show (B_Machine_forward [some (.ob true "Machine" (mach P (.list C) I S (pos : Int)))]).finM = _
  have h := mach_position P (.list C) I S (pos : Int)
  have h2 := mach_code P (.list C) I S (pos : Int)
  have hl := mach_len P (.list C) I S (pos : Int)
  have mv := mach_move P (.list C) I S (pos : Int) ((pos : Int) + 1)
  have h' := mach_position P (.list C) I S ((pos : Int) + 1)
  have h2' := mach_code P (.list C) I S ((pos : Int) + 1)
  have e1 : ((pos + 1 : Nat) : Int) = (pos : Int) + 1 := by omega
  have e2 : (pos : Int) + 1 - 1 = (pos : Int) := by omega
  have nb : ((pos : Int) + 1).natAbs < 9223372036854775808 ∨ True := .inr trivial
  cases hx : C[pos]? with
  | some i =>
    have hlt := (List.getElem?_eq_some_iff.mp hx).1
    have ne : decide ((pos : Int) = (C.length : Int)) = false := decide_eq_false (by omega)
    have hat : atI C (pos : Int) = some i := by rw [atI_cons _ _ hlt]; exact hx
    simp only
    rw [e1]
    unfold B_Machine_forward
    generalize mach P (.list C) I S ((pos : Int) + 1) = M2 at *
    generalize mach P (.list C) I S (pos : Int) = M at *
    simp only [e_nil, e_seq, e_fz, e_bk, e_ct, e_ret, e_retN, e_drop, e_set, e_if, e_for, e_cC, e_c2, e_c1, e_cA, e_aN, e_aC, e_cB, e_asB, e_bNot, e_bAnd, e_bOr, e_vAnd, e_vOr, e_vNot, e_vIf, e_bYes, e_iL, e_iT, e_iLb, e_iR, e_gL1, e_gL2, e_gL3, e_gT, e_gLb1, e_gLb2, e_gLb3, e_gLb4, e_nb1, e_nb2, e_bor1, e_bor2, e_bor3, e_bor4, e_arg1, e_arg2, e_arg3, e_arg4, e_putd, e_puto, e_toD1, e_toD2, e_allD0, e_allD1, e_allD2, e_gTupl, e_gList, e_tgnm, e_tgtp, e_tg0, e_tg1, e_sq1, e_sq2, e_sq3, e_sq4, e_sq5, e_qv2, e_qv3, e_qv4, e_qv5, e_data1, e_data2, e_data3, e_okI, e_okB, e_i2, e_sub, e_mul, e_mod, e_div, e_pow, e_lt, e_le, e_gt, e_ge, e_neg, e_addI, e_addS, e_addT, e_addL1, e_addL2, e_addL3, e_addL4, e_addL5, e_addL6, e_addL7, e_addL8, e_addL9, e_eq, e_ne, e_in, e_notIn, e_inT, e_inT2, e_inL1, e_inL2, e_inL3, e_is, e_isNot, e_isN1, e_isN2, e_isN3, e_isN4, e_isN5, e_isN6, e_isN7, e_ixT, e_ixL, e_ixO, e_ixB, e_ixSc, e_lenT, e_lenL, e_lenO, e_lenB, e_lenSc, e_lenS, e_tupT, e_tupL, e_tupO, e_tupB, e_lisT, e_lisL, e_lisO, e_lisB, e_min2, e_max2, e_any, e_all, e_sum, e_sorted, e_rev, e_sl, e_oN, e_isi, e_lc, e_wipe0, e_wipe1, e_iA, e_iAb, e_gAq1, e_gAq2, e_gAq3, e_gAqb1, e_gAqb2, e_gAqb3, e_gAqb4, e_no, e_cCh, e_cChI, e_aug, e_decT, e_decF, e_cDispS, e_cDT, e_cDK, e_cDisp1, e_storeA, e_stR1, e_stR2, e_stR3, e_sd1, e_keyD1, e_keyD2, e_keyTD, e_intsD, e_intsD0, e_borT, e_borT2, e_borK, e_borK2, e_argT, e_argT2, e_argK, e_argK2, e_nbT, e_nbK, e_putT, e_putK, e_gAt1, e_gAt2, e_gAt3, e_gAt4, e_gGetDK, e_gGetDT, e_gIxD, e_gInD, e_gNotInD, e_cGet1, e_cGet2, e_dk1, e_dk2, e_dk3, e_dk4, e_dt1, e_dt2, e_del, atI_zero, e_at1, e_at2, e_at3, e_at4, e_at5, e_at6, e_at7, e_at8, e_at9, e_atm, e_V, e_retV, e_unp, e_app, e_store, e_fzE, oS, rsO_some, Rs.bind_ok, Rs.bind_no, Rs.out_ok, Out.then_nx, Out.then_rt, Out.then_ct, Out.then_bk, fin_rt, fin_nx, List.getElem?_cons_zero, List.getElem?_cons_succ, List.set_cons_succ, List.set_cons_zero, List.length_cons, List.length_nil, Nat.reduceAdd, Nat.reduceLT, Nat.reduceLeDiff, Nat.reduceEqDiff, if_true, if_false, Bool.false_eq_true, Bool.not_true, Bool.not_false, and_self, true_and, and_true, List.map_cons, List.map_nil, Option.map_some, sh_int, sh_bool, sh_none, sh_tup, sh_lst, eqv_int, reduceIte, Option.bind_some, Option.bind_none, kitB_ll, kitB_lt, kitB_tt, kitB_tl, kitB_ii, tyD_list, tyD_int, Bool.true_and, Bool.false_and, Bool.and_true, Bool.and_false, Bool.or_true, Bool.true_or, Bool.false_or, Bool.or_false, Bool.and_self, Bool.or_self, e_cAK, List.append_nil, List.nil_append, List.cons_append, e_andB, e_orB, e_andR, e_orR, tyD_tuple, eqv_bool, eqv_none, tyD_bool, tyD_str, tyD_none, kitB_bb, kitB_nb, kitB_bi, kitB_ib, kitB_nl, kitB_nt, beq_self_eq_true, e_fldS, e_fld, e_obO, e_obB, e_fvd, e_fvl, e_fvF, e_toD, e_toL, e_retS, e_rmO, e_finM, e_finN, e_prop, e_okR, e_M, e_setM, e_appT, e_arO, e_boO, e_mCall, e_MF, e_plainD, e_pbD, e_pbB, e_mkO, e_MP, e_fapp, e_fvO, e_dropM, e_ifM, e_retM, e_retNS, e_m2, e_mB, e_mPT, e_mNot, e_mOr, e_nbo, Out.then_rm, MO.out_ok, MO.out_ex, MO.bind_ok, Rs.mo_ok, Option.map_some, and_self, if_true, true_and, and_true, List.all_cons, List.all_nil, Bool.and_true, putFV_nil, e_fld, e_obO, h, h2, e_fvd, ne, e_fldS, e_fvF, e_toD, Option.map_some, hl, mv, h', h2', e2, hat, e_retS, e_rmO, e_finM]
  | none =>
    have hge := List.getElem?_eq_none_iff.mp hx
    have ne : decide ((pos : Int) = (C.length : Int)) = true := decide_eq_true (by omega)
    simp only
    unfold B_Machine_forward
    generalize mach P (.list C) I S ((pos : Int) + 1) = M2 at *
    generalize mach P (.list C) I S (pos : Int) = M at *
    simp only [e_nil, e_seq, e_fz, e_bk, e_ct, e_ret, e_retN, e_drop, e_set, e_if, e_for, e_cC, e_c2, e_c1, e_cA, e_aN, e_aC, e_cB, e_asB, e_bNot, e_bAnd, e_bOr, e_vAnd, e_vOr, e_vNot, e_vIf, e_bYes, e_iL, e_iT, e_iLb, e_iR, e_gL1, e_gL2, e_gL3, e_gT, e_gLb1, e_gLb2, e_gLb3, e_gLb4, e_nb1, e_nb2, e_bor1, e_bor2, e_bor3, e_bor4, e_arg1, e_arg2, e_arg3, e_arg4, e_putd, e_puto, e_toD1, e_toD2, e_allD0, e_allD1, e_allD2, e_gTupl, e_gList, e_tgnm, e_tgtp, e_tg0, e_tg1, e_sq1, e_sq2, e_sq3, e_sq4, e_sq5, e_qv2, e_qv3, e_qv4, e_qv5, e_data1, e_data2, e_data3, e_okI, e_okB, e_i2, e_sub, e_mul, e_mod, e_div, e_pow, e_lt, e_le, e_gt, e_ge, e_neg, e_addI, e_addS, e_addT, e_addL1, e_addL2, e_addL3, e_addL4, e_addL5, e_addL6, e_addL7, e_addL8, e_addL9, e_eq, e_ne, e_in, e_notIn, e_inT, e_inT2, e_inL1, e_inL2, e_inL3, e_is, e_isNot, e_isN1, e_isN2, e_isN3, e_isN4, e_isN5, e_isN6, e_isN7, e_ixT, e_ixL, e_ixO, e_ixB, e_ixSc, e_lenT, e_lenL, e_lenO, e_lenB, e_lenSc, e_lenS, e_tupT, e_tupL, e_tupO, e_tupB, e_lisT, e_lisL, e_lisO, e_lisB, e_min2, e_max2, e_any, e_all, e_sum, e_sorted, e_rev, e_sl, e_oN, e_isi, e_lc, e_wipe0, e_wipe1, e_iA, e_iAb, e_gAq1, e_gAq2, e_gAq3, e_gAqb1, e_gAqb2, e_gAqb3, e_gAqb4, e_no, e_cCh, e_cChI, e_aug, e_decT, e_decF, e_cDispS, e_cDT, e_cDK, e_cDisp1, e_storeA, e_stR1, e_stR2, e_stR3, e_sd1, e_keyD1, e_keyD2, e_keyTD, e_intsD, e_intsD0, e_borT, e_borT2, e_borK, e_borK2, e_argT, e_argT2, e_argK, e_argK2, e_nbT, e_nbK, e_putT, e_putK, e_gAt1, e_gAt2, e_gAt3, e_gAt4, e_gGetDK, e_gGetDT, e_gIxD, e_gInD, e_gNotInD, e_cGet1, e_cGet2, e_dk1, e_dk2, e_dk3, e_dk4, e_dt1, e_dt2, e_del, atI_zero, e_at1, e_at2, e_at3, e_at4, e_at5, e_at6, e_at7, e_at8, e_at9, e_atm, e_V, e_retV, e_unp, e_app, e_store, e_fzE, oS, rsO_some, Rs.bind_ok, Rs.bind_no, Rs.out_ok, Out.then_nx, Out.then_rt, Out.then_ct, Out.then_bk, fin_rt, fin_nx, List.getElem?_cons_zero, List.getElem?_cons_succ, List.set_cons_succ, List.set_cons_zero, List.length_cons, List.length_nil, Nat.reduceAdd, Nat.reduceLT, Nat.reduceLeDiff, Nat.reduceEqDiff, if_true, if_false, Bool.false_eq_true, Bool.not_true, Bool.not_false, and_self, true_and, and_true, List.map_cons, List.map_nil, Option.map_some, sh_int, sh_bool, sh_none, sh_tup, sh_lst, eqv_int, reduceIte, Option.bind_some, Option.bind_none, kitB_ll, kitB_lt, kitB_tt, kitB_tl, kitB_ii, tyD_list, tyD_int, Bool.true_and, Bool.false_and, Bool.and_true, Bool.and_false, Bool.or_true, Bool.true_or, Bool.false_or, Bool.or_false, Bool.and_self, Bool.or_self, e_cAK, List.append_nil, List.nil_append, List.cons_append, e_andB, e_orB, e_andR, e_orR, tyD_tuple, eqv_bool, eqv_none, tyD_bool, tyD_str, tyD_none, kitB_bb, kitB_nb, kitB_bi, kitB_ib, kitB_nl, kitB_nt, beq_self_eq_true, e_fldS, e_fld, e_obO, e_obB, e_fvd, e_fvl, e_fvF, e_toD, e_toL, e_retS, e_rmO, e_finM, e_finN, e_prop, e_okR, e_M, e_setM, e_appT, e_arO, e_boO, e_mCall, e_MF, e_plainD, e_pbD, e_pbB, e_mkO, e_MP, e_fapp, e_fvO, e_dropM, e_ifM, e_retM, e_retNS, e_m2, e_mB, e_mPT, e_mNot, e_mOr, e_nbo, Out.then_rm, MO.out_ok, MO.out_ex, MO.bind_ok, Rs.mo_ok, Option.map_some, and_self, if_true, true_and, and_true, List.all_cons, List.all_nil, Bool.and_true, putFV_nil, e_fld, e_obO, h, h2, e_fvd, ne, e_toD, e_retS, e_rmO, e_finM]
theorem backward_ok (pos : Nat) (hp : pos ≤ C.length) (hC : C.length ≤ 1000) : F_Machine_backward [.ob true "Machine" (mach P (.list C) I S (pos : Int))] = match pos with
    | 0 => .ok "Machine" (mach P (.list C) I S 0) .none
    | k + 1 => .ok "Machine" (mach P (.list C) I S (k : Int)) (C.getD k .none) := by
  show (B_Machine_backward [some (.ob true "Machine" (mach P (.list C) I S (pos : Int)))]).finM = _
  have h := mach_position P (.list C) I S (pos : Int)
  have hl := mach_len P (.list C) I S (pos : Int)
  have mv := mach_move P (.list C) I S (pos : Int) ((pos : Int) - 1)
  have h' := mach_position P (.list C) I S ((pos : Int) - 1)
  have h2' := mach_code P (.list C) I S ((pos : Int) - 1)
  cases pos with
  | zero =>
    have ne : decide (((0 : Nat) : Int) = 0) = true := rfl
    show _ = MR.ok "Machine" (mach P (.list C) I S ((0 : Nat) : Int)) .none
    unfold B_Machine_backward
    generalize mach P (.list C) I S (((0 : Nat) : Int) - 1) = M2 at *
    generalize mach P (.list C) I S ((0 : Nat) : Int) = M at *
    simp only [e_nil, e_seq, e_fz, e_bk, e_ct, e_ret, e_retN, e_drop, e_set, e_if, e_for, e_cC, e_c2, e_c1, e_cA, e_aN, e_aC, e_cB, e_asB, e_bNot, e_bAnd, e_bOr, e_vAnd, e_vOr, e_vNot, e_vIf, e_bYes, e_iL, e_iT, e_iLb, e_iR, e_gL1, e_gL2, e_gL3, e_gT, e_gLb1, e_gLb2, e_gLb3, e_gLb4, e_nb1, e_nb2, e_bor1, e_bor2, e_bor3, e_bor4, e_arg1, e_arg2, e_arg3, e_arg4, e_putd, e_puto, e_toD1, e_toD2, e_allD0, e_allD1, e_allD2, e_gTupl, e_gList, e_tgnm, e_tgtp, e_tg0, e_tg1, e_sq1, e_sq2, e_sq3, e_sq4, e_sq5, e_qv2, e_qv3, e_qv4, e_qv5, e_data1, e_data2, e_data3, e_okI, e_okB, e_i2, e_sub, e_mul, e_mod, e_div, e_pow, e_lt, e_le, e_gt, e_ge, e_neg, e_addI, e_addS, e_addT, e_addL1, e_addL2, e_addL3, e_addL4, e_addL5, e_addL6, e_addL7, e_addL8, e_addL9, e_eq, e_ne, e_in, e_notIn, e_inT, e_inT2, e_inL1, e_inL2, e_inL3, e_is, e_isNot, e_isN1, e_isN2, e_isN3, e_isN4, e_isN5, e_isN6, e_isN7, e_ixT, e_ixL, e_ixO, e_ixB, e_ixSc, e_lenT, e_lenL, e_lenO, e_lenB, e_lenSc, e_lenS, e_tupT, e_tupL, e_tupO, e_tupB, e_lisT, e_lisL, e_lisO, e_lisB, e_min2, e_max2, e_any, e_all, e_sum, e_sorted, e_rev, e_sl, e_oN, e_isi, e_lc, e_wipe0, e_wipe1, e_iA, e_iAb, e_gAq1, e_gAq2, e_gAq3, e_gAqb1, e_gAqb2, e_gAqb3, e_gAqb4, e_no, e_cCh, e_cChI, e_aug, e_decT, e_decF, e_cDispS, e_cDT, e_cDK, e_cDisp1, e_storeA, e_stR1, e_stR2, e_stR3, e_sd1, e_keyD1, e_keyD2, e_keyTD, e_intsD, e_intsD0, e_borT, e_borT2, e_borK, e_borK2, e_argT, e_argT2, e_argK, e_argK2, e_nbT, e_nbK, e_putT, e_putK, e_gAt1, e_gAt2, e_gAt3, e_gAt4, e_gGetDK, e_gGetDT, e_gIxD, e_gInD, e_gNotInD, e_cGet1, e_cGet2, e_dk1, e_dk2, e_dk3, e_dk4, e_dt1, e_dt2, e_del, atI_zero, e_at1, e_at2, e_at3, e_at4, e_at5, e_at6, e_at7, e_at8, e_at9, e_atm, e_V, e_retV, e_unp, e_app, e_store, e_fzE, oS, rsO_some, Rs.bind_ok, Rs.bind_no, Rs.out_ok, Out.then_nx, Out.then_rt, Out.then_ct, Out.then_bk, fin_rt, fin_nx, List.getElem?_cons_zero, List.getElem?_cons_succ, List.set_cons_succ, List.set_cons_zero, List.length_cons, List.length_nil, Nat.reduceAdd, Nat.reduceLT, Nat.reduceLeDiff, Nat.reduceEqDiff, if_true, if_false, Bool.false_eq_true, Bool.not_true, Bool.not_false, and_self, true_and, and_true, List.map_cons, List.map_nil, Option.map_some, sh_int, sh_bool, sh_none, sh_tup, sh_lst, eqv_int, reduceIte, Option.bind_some, Option.bind_none, kitB_ll, kitB_lt, kitB_tt, kitB_tl, kitB_ii, tyD_list, tyD_int, Bool.true_and, Bool.false_and, Bool.and_true, Bool.and_false, Bool.or_true, Bool.true_or, Bool.false_or, Bool.or_false, Bool.and_self, Bool.or_self, e_cAK, List.append_nil, List.nil_append, List.cons_append, e_andB, e_orB, e_andR, e_orR, tyD_tuple, eqv_bool, eqv_none, tyD_bool, tyD_str, tyD_none, kitB_bb, kitB_nb, kitB_bi, kitB_ib, kitB_nl, kitB_nt, beq_self_eq_true, e_fldS, e_fld, e_obO, e_obB, e_fvd, e_fvl, e_fvF, e_toD, e_toL, e_retS, e_rmO, e_finM, e_finN, e_prop, e_okR, e_M, e_setM, e_appT, e_arO, e_boO, e_mCall, e_MF, e_plainD, e_pbD, e_pbB, e_mkO, e_MP, e_fapp, e_fvO, e_dropM, e_ifM, e_retM, e_retNS, e_m2, e_mB, e_mPT, e_mNot, e_mOr, e_nbo, Out.then_rm, MO.out_ok, MO.out_ex, MO.bind_ok, Rs.mo_ok, Option.map_some, and_self, if_true, true_and, and_true, List.all_cons, List.all_nil, Bool.and_true, putFV_nil, e_fld, e_obO, h, e_fvd, ne, e_toD, e_retS, e_rmO, e_finM]
  | succ k =>
    have ne : decide (((k + 1 : Nat) : Int) = 0) = false := decide_eq_false (by omega)
    have e2 : ((k + 1 : Nat) : Int) - 1 = (k : Int) := by omega
    have hk : k < C.length := by omega
    have hat : atI C (k : Int) = some (C.getD k .none) := by
      rw [atI_cons _ _ hk, List.getD_eq_getElem?_getD, List.getElem?_eq_getElem hk]
      rfl
    rw [e2] at mv h' h2'
    simp only
    unfold B_Machine_backward
    generalize mach P (.list C) I S (k : Int) = M2 at *
    generalize mach P (.list C) I S ((k + 1 : Nat) : Int) = M at *
    generalize ((k + 1 : Nat) : Int) = KK at *
    simp only [e_nil, e_seq, e_fz, e_bk, e_ct, e_ret, e_retN, e_drop, e_set, e_if, e_for, e_cC, e_c2, e_c1, e_cA, e_aN, e_aC, e_cB, e_asB, e_bNot, e_bAnd, e_bOr, e_vAnd, e_vOr, e_vNot, e_vIf, e_bYes, e_iL, e_iT, e_iLb, e_iR, e_gL1, e_gL2, e_gL3, e_gT, e_gLb1, e_gLb2, e_gLb3, e_gLb4, e_nb1, e_nb2, e_bor1, e_bor2, e_bor3, e_bor4, e_arg1, e_arg2, e_arg3, e_arg4, e_putd, e_puto, e_toD1, e_toD2, e_allD0, e_allD1, e_allD2, e_gTupl, e_gList, e_tgnm, e_tgtp, e_tg0, e_tg1, e_sq1, e_sq2, e_sq3, e_sq4, e_sq5, e_qv2, e_qv3, e_qv4, e_qv5, e_data1, e_data2, e_data3, e_okI, e_okB, e_i2, e_sub, e_mul, e_mod, e_div, e_pow, e_lt, e_le, e_gt, e_ge, e_neg, e_addI, e_addS, e_addT, e_addL1, e_addL2, e_addL3, e_addL4, e_addL5, e_addL6, e_addL7, e_addL8, e_addL9, e_eq, e_ne, e_in, e_notIn, e_inT, e_inT2, e_inL1, e_inL2, e_inL3, e_is, e_isNot, e_isN1, e_isN2, e_isN3, e_isN4, e_isN5, e_isN6, e_isN7, e_ixT, e_ixL, e_ixO, e_ixB, e_ixSc, e_lenT, e_lenL, e_lenO, e_lenB, e_lenSc, e_lenS, e_tupT, e_tupL, e_tupO, e_tupB, e_lisT, e_lisL, e_lisO, e_lisB, e_min2, e_max2, e_any, e_all, e_sum, e_sorted, e_rev, e_sl, e_oN, e_isi, e_lc, e_wipe0, e_wipe1, e_iA, e_iAb, e_gAq1, e_gAq2, e_gAq3, e_gAqb1, e_gAqb2, e_gAqb3, e_gAqb4, e_no, e_cCh, e_cChI, e_aug, e_decT, e_decF, e_cDispS, e_cDT, e_cDK, e_cDisp1, e_storeA, e_stR1, e_stR2, e_stR3, e_sd1, e_keyD1, e_keyD2, e_keyTD, e_intsD, e_intsD0, e_borT, e_borT2, e_borK, e_borK2, e_argT, e_argT2, e_argK, e_argK2, e_nbT, e_nbK, e_putT, e_putK, e_gAt1, e_gAt2, e_gAt3, e_gAt4, e_gGetDK, e_gGetDT, e_gIxD, e_gInD, e_gNotInD, e_cGet1, e_cGet2, e_dk1, e_dk2, e_dk3, e_dk4, e_dt1, e_dt2, e_del, atI_zero, e_at1, e_at2, e_at3, e_at4, e_at5, e_at6, e_at7, e_at8, e_at9, e_atm, e_V, e_retV, e_unp, e_app, e_store, e_fzE, oS, rsO_some, Rs.bind_ok, Rs.bind_no, Rs.out_ok, Out.then_nx, Out.then_rt, Out.then_ct, Out.then_bk, fin_rt, fin_nx, List.getElem?_cons_zero, List.getElem?_cons_succ, List.set_cons_succ, List.set_cons_zero, List.length_cons, List.length_nil, Nat.reduceAdd, Nat.reduceLT, Nat.reduceLeDiff, Nat.reduceEqDiff, if_true, if_false, Bool.false_eq_true, Bool.not_true, Bool.not_false, and_self, true_and, and_true, List.map_cons, List.map_nil, Option.map_some, sh_int, sh_bool, sh_none, sh_tup, sh_lst, eqv_int, reduceIte, Option.bind_some, Option.bind_none, kitB_ll, kitB_lt, kitB_tt, kitB_tl, kitB_ii, tyD_list, tyD_int, Bool.true_and, Bool.false_and, Bool.and_true, Bool.and_false, Bool.or_true, Bool.true_or, Bool.false_or, Bool.or_false, Bool.and_self, Bool.or_self, e_cAK, List.append_nil, List.nil_append, List.cons_append, e_andB, e_orB, e_andR, e_orR, tyD_tuple, eqv_bool, eqv_none, tyD_bool, tyD_str, tyD_none, kitB_bb, kitB_nb, kitB_bi, kitB_ib, kitB_nl, kitB_nt, beq_self_eq_true, e_fldS, e_fld, e_obO, e_obB, e_fvd, e_fvl, e_fvF, e_toD, e_toL, e_retS, e_rmO, e_finM, e_finN, e_prop, e_okR, e_M, e_setM, e_appT, e_arO, e_boO, e_mCall, e_MF, e_plainD, e_pbD, e_pbB, e_mkO, e_MP, e_fapp, e_fvO, e_dropM, e_ifM, e_retM, e_retNS, e_m2, e_mB, e_mPT, e_mNot, e_mOr, e_nbo, Out.then_rm, MO.out_ok, MO.out_ex, MO.bind_ok, Rs.mo_ok, Option.map_some, and_self, if_true, true_and, and_true, List.all_cons, List.all_nil, Bool.and_true, putFV_nil, e_fld, e_obO, h, e_fvd, ne, e_fldS, e_fvF, e_toD, Option.map_some, hl, e2, mv, h', h2', hat, e_retS, e_rmO, e_finM]
end
theorem cut_pre {α : Type} (xs : List α) (k : Nat) (h : k ≤ xs.length) : cutL xs none (some (k : Int)) = xs.take k := by
  unfold cutL
  rw [HT.sIx_nat]
  show (xs.drop 0).take _ = _
  rw [List.drop_zero, Nat.min_eq_left h]
  rfl
theorem cut_suf {α : Type} (xs : List α) (k : Nat) (h : k ≤ xs.length) : cutL xs (some (k : Int)) none = xs.drop k := by
  unfold cutL
  rw [HT.sIx_nat]
  have h0 : HT.sIx xs.length xs.length none = xs.length := rfl
  rw [h0, Nat.min_eq_left h]
  exact List.take_of_length_le (by rw [List.length_drop]; omega)
theorem sl_b' (xs : List PyData) (lo hi : Option Int) : gSl (.bl xs) lo hi = .ok (.ol (cutL xs lo hi)) := rfl
theorem ins_at' {cs : List Ins} {k : Nat} {i : Ins} (h : cs[k]? = some i) : atI (cs.map Ins.d) (k : Int) = some i.d := by
  rw [atI_cons _ _ (by rw [List.length_map]; exact (List.getElem?_eq_some_iff.mp h).1), List.getElem?_map, h]
  rfl
theorem ins_nice (i : Ins) : SeqAt.shaped i.d = true ∧ PyData.eqv i.d i.d = true := by
  have h : Nice 1 i.d := by
    refine Nice.tup fun e he => ?_
    simp at he
    rcases he with rfl | rfl | rfl | rfl | rfl
    · exact Nice.int 0 _
    · refine Nice.str 0 ?_
      unfold Ins.sgn
      split
      · exact minus_ok
      · exact plus_ok
    · exact Nice.str 0 (op_ok _)
    · exact Nice.str 0 (Src.strOk _)
    · exact Nice.str 0 (Src.strOk _)
  exact ⟨h.shaped (by omega), h.refl⟩
def headL : VEnv → Out :=
  (sIf (cB (c2 gLt (c2 gIx (cA (fun rs => if rs.length = 3 then F__law_draw (rs.map RV.arg) else .no) (aC (cV 0) (aC (cV 8) (aC (cA gList (aC (cC (.int 5)) aN)) aN)))) (cC (.int 0))) (cC (.int 3)))) (sSeq (sIf (cB (c2 gLt (cV 7) (cA gLen (aC (cV 2) aN)))) (sSeq (sSet 9 (c2 gIx (cV 2) (cV 7)))
    (sSet 7 (c2 gAdd (cV 7) (cC (.int 1))))) sNil)
    (sSetM 10 (cM "Machine" 6 "forward" F_Machine_forward aN))) (sSeq (sIf (cB (c2 gGt (cV 7) (cC (.int 0)))) (sSeq (sSet 7 (c2 gSub (cV 7) (cC (.int 1))))
    (sSet 9 (c2 gIx (cV 2) (cV 7)))) sNil)
    (sSetM 10 (cM "Machine" 6 "backward" F_Machine_backward aN))))
def tailL : VEnv → Out :=
  (sSeq (sIf (bOr (cB (c2 gNe (cV 10) (cV 9))) (cB (c2 gNe (cProp "Machine" 6 F_Machine_position) (cV 7)))) (sRet (cC (.bool false))) sNil)
    (sSeq (sFz 3 (sFz 1 (sIf (cB (c2 gNe (cProp "Machine" 6 F_Machine_registers) (cA (fun rs => if rs.length = 4 then F__law_after (rs.map RV.arg) else .no) (aC (cV 1) (aC (cSl (cV 2) oN (oS (cV 7))) (aC (cV 3) (aC (c2 gRep (cA gList (aC (cC (.int 0)) aN)) (cC (.int 8))) aN))))))) (sRet (cC (.bool false))) sNil)))
    (sAppT (cProp "Machine" 6 F_Machine_registers) (cC (.int 1)))))
theorem L0_split : L0_law = sSeq (sSet 9 (cC .none)) (sSeq headL tailL) := rfl
/-- what a turn's end asks: told and due alike, the place and the registers told right -/
theorem turn_end {m n : Nat} {ss : List Stp} {out : PyData} {cs : List Ins} {ins : List Int} (hm : 2 ≤ m) (hm2 : m ≤ 1000) (hc : ∀ i ∈ cs, i.ok n) (hl : cs.length ≤ 8) (hi : ins.length = n) (h1 : Regs m ins) (at_ : Nat) (ha : at_ ≤ cs.length) (D : PyData) (hD : SeqAt.shaped D = true ∧ PyData.eqv D D = true)
    (e0 e4 e5 e8 : Option RV) (r3 : RV) (h3 : r3 = .ol (ins.map .int) ∨ r3 = .d (.list (ins.map .int))) (I : PyData) :
    tailL
      [e0, some (.d (progD m n (.tuple (ss.map Stp.d)) out)), some (.ol (cs.map Ins.d)), some r3, e4, e5, some (.ob false "Machine" (mach (progD m n (.tuple (ss.map Stp.d)) out) (.list (cs.map Ins.d)) I (.list ((statesM m ins cs).map rowD)) (at_ : Int))), some (.d (.int (at_ : Int))), e8, some (.d D), some (.d D)]
      = .nx [e0, some (.d (progD m n (.tuple (ss.map Stp.d)) out)), some (.ol (cs.map Ins.d)), some (.d (.list (ins.map .int))), e4, e5, some (.ob false "Machine" (mach (progD m n (.tuple (ss.map Stp.d)) out) (.list (cs.map Ins.d)) I (.list ((statesM m ins cs).map rowD)) (at_ : Int))), some (.d (.int (at_ : Int))), e8, some (.d D), some (.d D)] := by
  have hm0 : (0 : Int) < (m : Int) := by omega
  have p1 := position_ok (progD m n (.tuple (ss.map Stp.d)) out) I (.list ((statesM m ins cs).map rowD)) (cs.map Ins.d) (at_ : Int)
  have p2 := registers_ok (progD m n (.tuple (ss.map Stp.d)) out) I (cs.map Ins.d) ((statesM m ins cs).map rowD) (at_ : Int) (stateM m ins cs at_) (states_at ha)
  have p3 := after_ok (m := (m : Int)) (n := (n : Int)) (st := .tuple (ss.map Stp.d)) (out := out) hm0 (by omega) (cs.take at_) (fun i hi => hc i (List.mem_of_mem_take hi)) (a := .d (.list (ins.map .int))) (b := .d (.list (rowZ.map .int))) (ins := ins) (regs := rowZ) (.inl rfl) (.inl rfl) hi rfl h1 (rowZ_regs hm0)
  have p3 : F__law_after [.d (progD m n (.tuple (ss.map Stp.d)) out), .d (.list ((cs.take at_).map Ins.d)), .d (.list (ins.map .int)), .d (.list (rowZ.map .int))] = .ok (.ol ((stateM m ins cs at_).map .int)) := p3
  have hcut : cutL (cs.map Ins.d) none (some (at_ : Int)) = (cs.take at_).map Ins.d := by
    rw [cut_pre _ _ (by rw [List.length_map]; exact ha), List.map_take]
  have hrep : gRep (.ol [.int 0]) (.d (.int 8)) = .ok (.ol (rowZ.map .int)) := rfl
  have s1 := sh_lst (stateM m ins cs at_)
  have v1 := eqv_lst (stateM m ins cs at_) (stateM m ins cs at_)
  rw [decide_eq_true rfl] at v1
  have zl : ((stateM m ins cs at_).map PyData.int).length ≤ 1000000 := by
    rw [List.length_map]
    have := (state_ok hm0 ins (cs.take at_)).1
    unfold stateM
    omega
  obtain ⟨d1, d2⟩ := hD
  have hdd : decide ((at_ : Int) = (at_ : Int)) = true := decide_eq_true rfl
  generalize mach (progD m n (.tuple (ss.map Stp.d)) out) (.list (cs.map Ins.d)) I (.list ((statesM m ins cs).map rowD)) (at_ : Int) = M at *
  generalize progD m n (.tuple (ss.map Stp.d)) out = P at *
  generalize (stateM m ins cs at_).map PyData.int = R at *
  generalize (cs.take at_).map Ins.d = CT at *
  generalize cs.map Ins.d = CC at *
  generalize rowZ.map PyData.int = Z at *
  rcases h3 with rfl | rfl
  · generalize ins.map PyData.int = IN at *
    unfold tailL
    simp only [e_nil, e_seq, e_fz, e_bk, e_ct, e_ret, e_retN, e_drop, e_set, e_if, e_for, e_cC, e_c2, e_c1, e_cA, e_aN, e_aC, e_cB, e_asB, e_bNot, e_bAnd, e_bOr, e_vAnd, e_vOr, e_vNot, e_vIf, e_bYes, e_iL, e_iT, e_iLb, e_iR, e_gL1, e_gL2, e_gL3, e_gT, e_gLb1, e_gLb2, e_gLb3, e_gLb4, e_nb1, e_nb2, e_bor1, e_bor2, e_bor3, e_bor4, e_arg1, e_arg2, e_arg3, e_arg4, e_putd, e_puto, e_toD1, e_toD2, e_allD0, e_allD1, e_allD2, e_gTupl, e_gList, e_tgnm, e_tgtp, e_tg0, e_tg1, e_sq1, e_sq2, e_sq3, e_sq4, e_sq5, e_qv2, e_qv3, e_qv4, e_qv5, e_data1, e_data2, e_data3, e_okI, e_okB, e_i2, e_sub, e_mul, e_mod, e_div, e_pow, e_lt, e_le, e_gt, e_ge, e_neg, e_addI, e_addS, e_addT, e_addL1, e_addL2, e_addL3, e_addL4, e_addL5, e_addL6, e_addL7, e_addL8, e_addL9, e_eq, e_ne, e_in, e_notIn, e_inT, e_inT2, e_inL1, e_inL2, e_inL3, e_is, e_isNot, e_isN1, e_isN2, e_isN3, e_isN4, e_isN5, e_isN6, e_isN7, e_ixT, e_ixL, e_ixO, e_ixB, e_ixSc, e_lenT, e_lenL, e_lenO, e_lenB, e_lenSc, e_lenS, e_tupT, e_tupL, e_tupO, e_tupB, e_lisT, e_lisL, e_lisO, e_lisB, e_min2, e_max2, e_any, e_all, e_sum, e_sorted, e_rev, e_sl, e_oN, e_isi, e_lc, e_wipe0, e_wipe1, e_iA, e_iAb, e_gAq1, e_gAq2, e_gAq3, e_gAqb1, e_gAqb2, e_gAqb3, e_gAqb4, e_no, e_cCh, e_cChI, e_aug, e_decT, e_decF, e_cDispS, e_cDT, e_cDK, e_cDisp1, e_storeA, e_stR1, e_stR2, e_stR3, e_sd1, e_keyD1, e_keyD2, e_keyTD, e_intsD, e_intsD0, e_borT, e_borT2, e_borK, e_borK2, e_argT, e_argT2, e_argK, e_argK2, e_nbT, e_nbK, e_putT, e_putK, e_gAt1, e_gAt2, e_gAt3, e_gAt4, e_gGetDK, e_gGetDT, e_gIxD, e_gInD, e_gNotInD, e_cGet1, e_cGet2, e_dk1, e_dk2, e_dk3, e_dk4, e_dt1, e_dt2, e_del, atI_zero, e_at1, e_at2, e_at3, e_at4, e_at5, e_at6, e_at7, e_at8, e_at9, e_atm, e_V, e_retV, e_unp, e_app, e_store, e_fzE, oS, rsO_some, Rs.bind_ok, Rs.bind_no, Rs.out_ok, Out.then_nx, Out.then_rt, Out.then_ct, Out.then_bk, fin_rt, fin_nx, List.getElem?_cons_zero, List.getElem?_cons_succ, List.set_cons_succ, List.set_cons_zero, List.length_cons, List.length_nil, Nat.reduceAdd, Nat.reduceLT, Nat.reduceLeDiff, Nat.reduceEqDiff, if_true, if_false, Bool.false_eq_true, Bool.not_true, Bool.not_false, and_self, true_and, and_true, List.map_cons, List.map_nil, Option.map_some, sh_int, sh_bool, sh_none, sh_tup, sh_lst, eqv_int, reduceIte, Option.bind_some, Option.bind_none, kitB_ll, kitB_lt, kitB_tt, kitB_tl, kitB_ii, tyD_list, tyD_int, Bool.true_and, Bool.false_and, Bool.and_true, Bool.and_false, Bool.or_true, Bool.true_or, Bool.false_or, Bool.or_false, Bool.and_self, Bool.or_self, e_cAK, List.append_nil, List.nil_append, List.cons_append, e_andB, e_orB, e_andR, e_orR, tyD_tuple, eqv_bool, eqv_none, tyD_bool, tyD_str, tyD_none, kitB_bb, kitB_nb, kitB_bi, kitB_ib, kitB_nl, kitB_nt, beq_self_eq_true, e_fldS, e_fld, e_obO, e_obB, e_fvd, e_fvl, e_fvF, e_toD, e_toL, e_retS, e_rmO, e_finM, e_finN, e_prop, e_okR, e_M, e_setM, e_appT, e_arO, e_boO, e_mCall, e_MF, e_plainD, e_pbD, e_pbB, e_mkO, e_MP, e_fapp, e_fvO, e_dropM, e_ifM, e_retM, e_retNS, e_m2, e_mB, e_mPT, e_mNot, e_mOr, e_nbo, Out.then_rm, MO.out_ok, MO.out_ex, MO.bind_ok, Rs.mo_ok, Option.map_some, and_self, if_true, true_and, and_true, List.all_cons, List.all_nil, Bool.and_true, putFV_nil, p1, p2, p3, sl_b', hcut, hrep, s1, v1, d1, d2, hdd, if_pos zl]
  · generalize ins.map PyData.int = IN at *
    unfold tailL
    simp only [e_nil, e_seq, e_fz, e_bk, e_ct, e_ret, e_retN, e_drop, e_set, e_if, e_for, e_cC, e_c2, e_c1, e_cA, e_aN, e_aC, e_cB, e_asB, e_bNot, e_bAnd, e_bOr, e_vAnd, e_vOr, e_vNot, e_vIf, e_bYes, e_iL, e_iT, e_iLb, e_iR, e_gL1, e_gL2, e_gL3, e_gT, e_gLb1, e_gLb2, e_gLb3, e_gLb4, e_nb1, e_nb2, e_bor1, e_bor2, e_bor3, e_bor4, e_arg1, e_arg2, e_arg3, e_arg4, e_putd, e_puto, e_toD1, e_toD2, e_allD0, e_allD1, e_allD2, e_gTupl, e_gList, e_tgnm, e_tgtp, e_tg0, e_tg1, e_sq1, e_sq2, e_sq3, e_sq4, e_sq5, e_qv2, e_qv3, e_qv4, e_qv5, e_data1, e_data2, e_data3, e_okI, e_okB, e_i2, e_sub, e_mul, e_mod, e_div, e_pow, e_lt, e_le, e_gt, e_ge, e_neg, e_addI, e_addS, e_addT, e_addL1, e_addL2, e_addL3, e_addL4, e_addL5, e_addL6, e_addL7, e_addL8, e_addL9, e_eq, e_ne, e_in, e_notIn, e_inT, e_inT2, e_inL1, e_inL2, e_inL3, e_is, e_isNot, e_isN1, e_isN2, e_isN3, e_isN4, e_isN5, e_isN6, e_isN7, e_ixT, e_ixL, e_ixO, e_ixB, e_ixSc, e_lenT, e_lenL, e_lenO, e_lenB, e_lenSc, e_lenS, e_tupT, e_tupL, e_tupO, e_tupB, e_lisT, e_lisL, e_lisO, e_lisB, e_min2, e_max2, e_any, e_all, e_sum, e_sorted, e_rev, e_sl, e_oN, e_isi, e_lc, e_wipe0, e_wipe1, e_iA, e_iAb, e_gAq1, e_gAq2, e_gAq3, e_gAqb1, e_gAqb2, e_gAqb3, e_gAqb4, e_no, e_cCh, e_cChI, e_aug, e_decT, e_decF, e_cDispS, e_cDT, e_cDK, e_cDisp1, e_storeA, e_stR1, e_stR2, e_stR3, e_sd1, e_keyD1, e_keyD2, e_keyTD, e_intsD, e_intsD0, e_borT, e_borT2, e_borK, e_borK2, e_argT, e_argT2, e_argK, e_argK2, e_nbT, e_nbK, e_putT, e_putK, e_gAt1, e_gAt2, e_gAt3, e_gAt4, e_gGetDK, e_gGetDT, e_gIxD, e_gInD, e_gNotInD, e_cGet1, e_cGet2, e_dk1, e_dk2, e_dk3, e_dk4, e_dt1, e_dt2, e_del, atI_zero, e_at1, e_at2, e_at3, e_at4, e_at5, e_at6, e_at7, e_at8, e_at9, e_atm, e_V, e_retV, e_unp, e_app, e_store, e_fzE, oS, rsO_some, Rs.bind_ok, Rs.bind_no, Rs.out_ok, Out.then_nx, Out.then_rt, Out.then_ct, Out.then_bk, fin_rt, fin_nx, List.getElem?_cons_zero, List.getElem?_cons_succ, List.set_cons_succ, List.set_cons_zero, List.length_cons, List.length_nil, Nat.reduceAdd, Nat.reduceLT, Nat.reduceLeDiff, Nat.reduceEqDiff, if_true, if_false, Bool.false_eq_true, Bool.not_true, Bool.not_false, and_self, true_and, and_true, List.map_cons, List.map_nil, Option.map_some, sh_int, sh_bool, sh_none, sh_tup, sh_lst, eqv_int, reduceIte, Option.bind_some, Option.bind_none, kitB_ll, kitB_lt, kitB_tt, kitB_tl, kitB_ii, tyD_list, tyD_int, Bool.true_and, Bool.false_and, Bool.and_true, Bool.and_false, Bool.or_true, Bool.true_or, Bool.false_or, Bool.or_false, Bool.and_self, Bool.or_self, e_cAK, List.append_nil, List.nil_append, List.cons_append, e_andB, e_orB, e_andR, e_orR, tyD_tuple, eqv_bool, eqv_none, tyD_bool, tyD_str, tyD_none, kitB_bb, kitB_nb, kitB_bi, kitB_ib, kitB_nl, kitB_nt, beq_self_eq_true, e_fldS, e_fld, e_obO, e_obB, e_fvd, e_fvl, e_fvF, e_toD, e_toL, e_retS, e_rmO, e_finM, e_finN, e_prop, e_okR, e_M, e_setM, e_appT, e_arO, e_boO, e_mCall, e_MF, e_plainD, e_pbD, e_pbB, e_mkO, e_MP, e_fapp, e_fvO, e_dropM, e_ifM, e_retM, e_retNS, e_m2, e_mB, e_mPT, e_mNot, e_mOr, e_nbo, Out.then_rm, MO.out_ok, MO.out_ex, MO.bind_ok, Rs.mo_ok, Option.map_some, and_self, if_true, true_and, and_true, List.all_cons, List.all_nil, Bool.and_true, putFV_nil, p1, p2, p3, sl_b', hcut, hrep, s1, v1, d1, d2, hdd, if_pos zl]
theorem head_ok (ns : List Int) {cs : List Ins} (hl : cs.length ≤ 8) (at_ : Nat) (ha : at_ ≤ cs.length) (k : Nat) (P I S : PyData) (e1 e3 e4 e5 e10 : Option RV) :
    ∃ (at' : Nat) (D : PyData), at' ≤ cs.length ∧ (SeqAt.shaped D = true ∧ PyData.eqv D D = true) ∧
      headL [some (.sc ns), e1, some (.ol (cs.map Ins.d)), e3, e4, e5, some (.ob false "Machine" (mach P (.list (cs.map Ins.d)) I S (at_ : Int))), some (.d (.int (at_ : Int))), some (.d (.int (k : Int))), some (.d .none), e10]
      = .nx [some (.sc ns), e1, some (.ol (cs.map Ins.d)), e3, e4, e5, some (.ob false "Machine" (mach P (.list (cs.map Ins.d)) I S (at' : Int))), some (.d (.int (at' : Int))), some (.d (.int (k : Int))), some (.d D), some (.d D)] := by
  obtain ⟨nd, q1, hl5, hb⟩ := draw_nat ns k [5] (by simp) (by simp)
  obtain ⟨d0, q0, b0⟩ := hb 0 5 rfl
  have hx0 : atI (nd.map natI) 0 = some (.int (d0 : Int)) := atI_nats (i := 0) q0
  have q1 : F__law_draw [.sc ns, .d (.int (k : Int)), .d (.list [.int 5])] = .ok (.ol (nd.map natI)) := q1
  have nn : SeqAt.shaped PyData.none = true ∧ PyData.eqv .none .none = true := ⟨rfl, rfl⟩
  have lc : (cs.map Ins.d).length = cs.length := List.length_map ..
  have fw := forward_ok P I S (cs.map Ins.d) at_ (by rw [lc]; exact ha) (by rw [lc]; omega)
  have bw := backward_ok P I S (cs.map Ins.d) at_ (by rw [lc]; exact ha) (by rw [lc]; omega)
  have nofw := mach_fwd P (.list (cs.map Ins.d)) I S (at_ : Int)
  have nobw := mach_bwd P (.list (cs.map Ins.d)) I S (at_ : Int)
  unfold headL
  by_cases hd : d0 < 3
  · have c1 : decide ((d0 : Int) < 3) = true := decide_eq_true (by omega)
    by_cases hlt : at_ < cs.length
    · have c2 : decide ((at_ : Int) < (cs.length : Int)) = true := decide_eq_true (by omega)
      have hx : cs[at_]? = some cs[at_] := List.getElem?_eq_getElem hlt
      have hat := ins_at' hx
      rw [List.getElem?_map, hx] at fw
      have fw2 : F_Machine_forward _ = MR.ok "Machine" _ cs[at_].d := fw
      clear fw
      refine ⟨at_ + 1, cs[at_].d, by omega, ins_nice _, ?_⟩
      have e1 : ((at_ + 1 : Nat) : Int) = (at_ : Int) + 1 := by omega
      rw [e1] at fw2 ⊢
      generalize mach P (.list (cs.map Ins.d)) I S ((at_ : Int) + 1) = M2 at *
      generalize mach P (.list (cs.map Ins.d)) I S (at_ : Int) = M at *
      generalize cs[at_].d = ID at *
      generalize cs.map Ins.d = CC at *
      simp only [e_nil, e_seq, e_fz, e_bk, e_ct, e_ret, e_retN, e_drop, e_set, e_if, e_for, e_cC, e_c2, e_c1, e_cA, e_aN, e_aC, e_cB, e_asB, e_bNot, e_bAnd, e_bOr, e_vAnd, e_vOr, e_vNot, e_vIf, e_bYes, e_iL, e_iT, e_iLb, e_iR, e_gL1, e_gL2, e_gL3, e_gT, e_gLb1, e_gLb2, e_gLb3, e_gLb4, e_nb1, e_nb2, e_bor1, e_bor2, e_bor3, e_bor4, e_arg1, e_arg2, e_arg3, e_arg4, e_putd, e_puto, e_toD1, e_toD2, e_allD0, e_allD1, e_allD2, e_gTupl, e_gList, e_tgnm, e_tgtp, e_tg0, e_tg1, e_sq1, e_sq2, e_sq3, e_sq4, e_sq5, e_qv2, e_qv3, e_qv4, e_qv5, e_data1, e_data2, e_data3, e_okI, e_okB, e_i2, e_sub, e_mul, e_mod, e_div, e_pow, e_lt, e_le, e_gt, e_ge, e_neg, e_addI, e_addS, e_addT, e_addL1, e_addL2, e_addL3, e_addL4, e_addL5, e_addL6, e_addL7, e_addL8, e_addL9, e_eq, e_ne, e_in, e_notIn, e_inT, e_inT2, e_inL1, e_inL2, e_inL3, e_is, e_isNot, e_isN1, e_isN2, e_isN3, e_isN4, e_isN5, e_isN6, e_isN7, e_ixT, e_ixL, e_ixO, e_ixB, e_ixSc, e_lenT, e_lenL, e_lenO, e_lenB, e_lenSc, e_lenS, e_tupT, e_tupL, e_tupO, e_tupB, e_lisT, e_lisL, e_lisO, e_lisB, e_min2, e_max2, e_any, e_all, e_sum, e_sorted, e_rev, e_sl, e_oN, e_isi, e_lc, e_wipe0, e_wipe1, e_iA, e_iAb, e_gAq1, e_gAq2, e_gAq3, e_gAqb1, e_gAqb2, e_gAqb3, e_gAqb4, e_no, e_cCh, e_cChI, e_aug, e_decT, e_decF, e_cDispS, e_cDT, e_cDK, e_cDisp1, e_storeA, e_stR1, e_stR2, e_stR3, e_sd1, e_keyD1, e_keyD2, e_keyTD, e_intsD, e_intsD0, e_borT, e_borT2, e_borK, e_borK2, e_argT, e_argT2, e_argK, e_argK2, e_nbT, e_nbK, e_putT, e_putK, e_gAt1, e_gAt2, e_gAt3, e_gAt4, e_gGetDK, e_gGetDT, e_gIxD, e_gInD, e_gNotInD, e_cGet1, e_cGet2, e_dk1, e_dk2, e_dk3, e_dk4, e_dt1, e_dt2, e_del, atI_zero, e_at1, e_at2, e_at3, e_at4, e_at5, e_at6, e_at7, e_at8, e_at9, e_atm, e_V, e_retV, e_unp, e_app, e_store, e_fzE, oS, rsO_some, Rs.bind_ok, Rs.bind_no, Rs.out_ok, Out.then_nx, Out.then_rt, Out.then_ct, Out.then_bk, fin_rt, fin_nx, List.getElem?_cons_zero, List.getElem?_cons_succ, List.set_cons_succ, List.set_cons_zero, List.length_cons, List.length_nil, Nat.reduceAdd, Nat.reduceLT, Nat.reduceLeDiff, Nat.reduceEqDiff, if_true, if_false, Bool.false_eq_true, Bool.not_true, Bool.not_false, and_self, true_and, and_true, List.map_cons, List.map_nil, Option.map_some, sh_int, sh_bool, sh_none, sh_tup, sh_lst, eqv_int, reduceIte, Option.bind_some, Option.bind_none, kitB_ll, kitB_lt, kitB_tt, kitB_tl, kitB_ii, tyD_list, tyD_int, Bool.true_and, Bool.false_and, Bool.and_true, Bool.and_false, Bool.or_true, Bool.true_or, Bool.false_or, Bool.or_false, Bool.and_self, Bool.or_self, e_cAK, List.append_nil, List.nil_append, List.cons_append, e_andB, e_orB, e_andR, e_orR, tyD_tuple, eqv_bool, eqv_none, tyD_bool, tyD_str, tyD_none, kitB_bb, kitB_nb, kitB_bi, kitB_ib, kitB_nl, kitB_nt, beq_self_eq_true, e_fldS, e_fld, e_obO, e_obB, e_fvd, e_fvl, e_fvF, e_toD, e_toL, e_retS, e_rmO, e_finM, e_finN, e_prop, e_okR, e_M, e_setM, e_appT, e_arO, e_boO, e_mCall, e_MF, e_plainD, e_pbD, e_pbB, e_mkO, e_MP, e_fapp, e_fvO, e_dropM, e_ifM, e_retM, e_retNS, e_m2, e_mB, e_mPT, e_mNot, e_mOr, e_nbo, Out.then_rm, MO.out_ok, MO.out_ex, MO.bind_ok, Rs.mo_ok, Option.map_some, and_self, if_true, true_and, and_true, List.all_cons, List.all_nil, Bool.and_true, putFV_nil, q1, hx0, c1, lc, c2, hat, nofw, fw2]
    · have c2 : decide ((at_ : Int) < (cs.length : Int)) = false := decide_eq_false (by omega)
      have hx : cs[at_]? = none := List.getElem?_eq_none_iff.mpr (by omega)
      rw [List.getElem?_map, hx] at fw
      have fw2 : F_Machine_forward _ = MR.ok "Machine" _ .none := fw
      clear fw
      refine ⟨at_, .none, by omega, nn, ?_⟩
      generalize mach P (.list (cs.map Ins.d)) I S (at_ : Int) = M at *
      generalize cs.map Ins.d = CC at *
      simp only [e_nil, e_seq, e_fz, e_bk, e_ct, e_ret, e_retN, e_drop, e_set, e_if, e_for, e_cC, e_c2, e_c1, e_cA, e_aN, e_aC, e_cB, e_asB, e_bNot, e_bAnd, e_bOr, e_vAnd, e_vOr, e_vNot, e_vIf, e_bYes, e_iL, e_iT, e_iLb, e_iR, e_gL1, e_gL2, e_gL3, e_gT, e_gLb1, e_gLb2, e_gLb3, e_gLb4, e_nb1, e_nb2, e_bor1, e_bor2, e_bor3, e_bor4, e_arg1, e_arg2, e_arg3, e_arg4, e_putd, e_puto, e_toD1, e_toD2, e_allD0, e_allD1, e_allD2, e_gTupl, e_gList, e_tgnm, e_tgtp, e_tg0, e_tg1, e_sq1, e_sq2, e_sq3, e_sq4, e_sq5, e_qv2, e_qv3, e_qv4, e_qv5, e_data1, e_data2, e_data3, e_okI, e_okB, e_i2, e_sub, e_mul, e_mod, e_div, e_pow, e_lt, e_le, e_gt, e_ge, e_neg, e_addI, e_addS, e_addT, e_addL1, e_addL2, e_addL3, e_addL4, e_addL5, e_addL6, e_addL7, e_addL8, e_addL9, e_eq, e_ne, e_in, e_notIn, e_inT, e_inT2, e_inL1, e_inL2, e_inL3, e_is, e_isNot, e_isN1, e_isN2, e_isN3, e_isN4, e_isN5, e_isN6, e_isN7, e_ixT, e_ixL, e_ixO, e_ixB, e_ixSc, e_lenT, e_lenL, e_lenO, e_lenB, e_lenSc, e_lenS, e_tupT, e_tupL, e_tupO, e_tupB, e_lisT, e_lisL, e_lisO, e_lisB, e_min2, e_max2, e_any, e_all, e_sum, e_sorted, e_rev, e_sl, e_oN, e_isi, e_lc, e_wipe0, e_wipe1, e_iA, e_iAb, e_gAq1, e_gAq2, e_gAq3, e_gAqb1, e_gAqb2, e_gAqb3, e_gAqb4, e_no, e_cCh, e_cChI, e_aug, e_decT, e_decF, e_cDispS, e_cDT, e_cDK, e_cDisp1, e_storeA, e_stR1, e_stR2, e_stR3, e_sd1, e_keyD1, e_keyD2, e_keyTD, e_intsD, e_intsD0, e_borT, e_borT2, e_borK, e_borK2, e_argT, e_argT2, e_argK, e_argK2, e_nbT, e_nbK, e_putT, e_putK, e_gAt1, e_gAt2, e_gAt3, e_gAt4, e_gGetDK, e_gGetDT, e_gIxD, e_gInD, e_gNotInD, e_cGet1, e_cGet2, e_dk1, e_dk2, e_dk3, e_dk4, e_dt1, e_dt2, e_del, atI_zero, e_at1, e_at2, e_at3, e_at4, e_at5, e_at6, e_at7, e_at8, e_at9, e_atm, e_V, e_retV, e_unp, e_app, e_store, e_fzE, oS, rsO_some, Rs.bind_ok, Rs.bind_no, Rs.out_ok, Out.then_nx, Out.then_rt, Out.then_ct, Out.then_bk, fin_rt, fin_nx, List.getElem?_cons_zero, List.getElem?_cons_succ, List.set_cons_succ, List.set_cons_zero, List.length_cons, List.length_nil, Nat.reduceAdd, Nat.reduceLT, Nat.reduceLeDiff, Nat.reduceEqDiff, if_true, if_false, Bool.false_eq_true, Bool.not_true, Bool.not_false, and_self, true_and, and_true, List.map_cons, List.map_nil, Option.map_some, sh_int, sh_bool, sh_none, sh_tup, sh_lst, eqv_int, reduceIte, Option.bind_some, Option.bind_none, kitB_ll, kitB_lt, kitB_tt, kitB_tl, kitB_ii, tyD_list, tyD_int, Bool.true_and, Bool.false_and, Bool.and_true, Bool.and_false, Bool.or_true, Bool.true_or, Bool.false_or, Bool.or_false, Bool.and_self, Bool.or_self, e_cAK, List.append_nil, List.nil_append, List.cons_append, e_andB, e_orB, e_andR, e_orR, tyD_tuple, eqv_bool, eqv_none, tyD_bool, tyD_str, tyD_none, kitB_bb, kitB_nb, kitB_bi, kitB_ib, kitB_nl, kitB_nt, beq_self_eq_true, e_fldS, e_fld, e_obO, e_obB, e_fvd, e_fvl, e_fvF, e_toD, e_toL, e_retS, e_rmO, e_finM, e_finN, e_prop, e_okR, e_M, e_setM, e_appT, e_arO, e_boO, e_mCall, e_MF, e_plainD, e_pbD, e_pbB, e_mkO, e_MP, e_fapp, e_fvO, e_dropM, e_ifM, e_retM, e_retNS, e_m2, e_mB, e_mPT, e_mNot, e_mOr, e_nbo, Out.then_rm, MO.out_ok, MO.out_ex, MO.bind_ok, Rs.mo_ok, Option.map_some, and_self, if_true, true_and, and_true, List.all_cons, List.all_nil, Bool.and_true, putFV_nil, q1, hx0, c1, lc, c2, nofw, fw2]
  · have c1 : decide ((d0 : Int) < 3) = false := decide_eq_false (by omega)
    cases at_ with
    | zero =>
      have bw2 : F_Machine_backward _ = MR.ok "Machine" (mach P (.list (cs.map Ins.d)) I S ((0 : Nat) : Int)) .none := bw
      clear bw
      refine ⟨0, .none, by omega, nn, ?_⟩
      have c2 : decide (((0 : Nat) : Int) > 0) = false := by decide
      generalize mach P (.list (cs.map Ins.d)) I S ((0 : Nat) : Int) = M at *
      generalize cs.map Ins.d = CC at *
      generalize hZ : ((0 : Nat) : Int) = Z at *
      simp only [e_nil, e_seq, e_fz, e_bk, e_ct, e_ret, e_retN, e_drop, e_set, e_if, e_for, e_cC, e_c2, e_c1, e_cA, e_aN, e_aC, e_cB, e_asB, e_bNot, e_bAnd, e_bOr, e_vAnd, e_vOr, e_vNot, e_vIf, e_bYes, e_iL, e_iT, e_iLb, e_iR, e_gL1, e_gL2, e_gL3, e_gT, e_gLb1, e_gLb2, e_gLb3, e_gLb4, e_nb1, e_nb2, e_bor1, e_bor2, e_bor3, e_bor4, e_arg1, e_arg2, e_arg3, e_arg4, e_putd, e_puto, e_toD1, e_toD2, e_allD0, e_allD1, e_allD2, e_gTupl, e_gList, e_tgnm, e_tgtp, e_tg0, e_tg1, e_sq1, e_sq2, e_sq3, e_sq4, e_sq5, e_qv2, e_qv3, e_qv4, e_qv5, e_data1, e_data2, e_data3, e_okI, e_okB, e_i2, e_sub, e_mul, e_mod, e_div, e_pow, e_lt, e_le, e_gt, e_ge, e_neg, e_addI, e_addS, e_addT, e_addL1, e_addL2, e_addL3, e_addL4, e_addL5, e_addL6, e_addL7, e_addL8, e_addL9, e_eq, e_ne, e_in, e_notIn, e_inT, e_inT2, e_inL1, e_inL2, e_inL3, e_is, e_isNot, e_isN1, e_isN2, e_isN3, e_isN4, e_isN5, e_isN6, e_isN7, e_ixT, e_ixL, e_ixO, e_ixB, e_ixSc, e_lenT, e_lenL, e_lenO, e_lenB, e_lenSc, e_lenS, e_tupT, e_tupL, e_tupO, e_tupB, e_lisT, e_lisL, e_lisO, e_lisB, e_min2, e_max2, e_any, e_all, e_sum, e_sorted, e_rev, e_sl, e_oN, e_isi, e_lc, e_wipe0, e_wipe1, e_iA, e_iAb, e_gAq1, e_gAq2, e_gAq3, e_gAqb1, e_gAqb2, e_gAqb3, e_gAqb4, e_no, e_cCh, e_cChI, e_aug, e_decT, e_decF, e_cDispS, e_cDT, e_cDK, e_cDisp1, e_storeA, e_stR1, e_stR2, e_stR3, e_sd1, e_keyD1, e_keyD2, e_keyTD, e_intsD, e_intsD0, e_borT, e_borT2, e_borK, e_borK2, e_argT, e_argT2, e_argK, e_argK2, e_nbT, e_nbK, e_putT, e_putK, e_gAt1, e_gAt2, e_gAt3, e_gAt4, e_gGetDK, e_gGetDT, e_gIxD, e_gInD, e_gNotInD, e_cGet1, e_cGet2, e_dk1, e_dk2, e_dk3, e_dk4, e_dt1, e_dt2, e_del, atI_zero, e_at1, e_at2, e_at3, e_at4, e_at5, e_at6, e_at7, e_at8, e_at9, e_atm, e_V, e_retV, e_unp, e_app, e_store, e_fzE, oS, rsO_some, Rs.bind_ok, Rs.bind_no, Rs.out_ok, Out.then_nx, Out.then_rt, Out.then_ct, Out.then_bk, fin_rt, fin_nx, List.getElem?_cons_zero, List.getElem?_cons_succ, List.set_cons_succ, List.set_cons_zero, List.length_cons, List.length_nil, Nat.reduceAdd, Nat.reduceLT, Nat.reduceLeDiff, Nat.reduceEqDiff, if_true, if_false, Bool.false_eq_true, Bool.not_true, Bool.not_false, and_self, true_and, and_true, List.map_cons, List.map_nil, Option.map_some, sh_int, sh_bool, sh_none, sh_tup, sh_lst, eqv_int, reduceIte, Option.bind_some, Option.bind_none, kitB_ll, kitB_lt, kitB_tt, kitB_tl, kitB_ii, tyD_list, tyD_int, Bool.true_and, Bool.false_and, Bool.and_true, Bool.and_false, Bool.or_true, Bool.true_or, Bool.false_or, Bool.or_false, Bool.and_self, Bool.or_self, e_cAK, List.append_nil, List.nil_append, List.cons_append, e_andB, e_orB, e_andR, e_orR, tyD_tuple, eqv_bool, eqv_none, tyD_bool, tyD_str, tyD_none, kitB_bb, kitB_nb, kitB_bi, kitB_ib, kitB_nl, kitB_nt, beq_self_eq_true, e_fldS, e_fld, e_obO, e_obB, e_fvd, e_fvl, e_fvF, e_toD, e_toL, e_retS, e_rmO, e_finM, e_finN, e_prop, e_okR, e_M, e_setM, e_appT, e_arO, e_boO, e_mCall, e_MF, e_plainD, e_pbD, e_pbB, e_mkO, e_MP, e_fapp, e_fvO, e_dropM, e_ifM, e_retM, e_retNS, e_m2, e_mB, e_mPT, e_mNot, e_mOr, e_nbo, Out.then_rm, MO.out_ok, MO.out_ex, MO.bind_ok, Rs.mo_ok, Option.map_some, and_self, if_true, true_and, and_true, List.all_cons, List.all_nil, Bool.and_true, putFV_nil, q1, hx0, c1, lc, c2, nobw, bw2]
    | succ j =>
      have bw2 : F_Machine_backward _ = MR.ok "Machine" (mach P (.list (cs.map Ins.d)) I S (j : Int)) ((cs.map Ins.d).getD j .none) := bw
      clear bw
      have hj : j < cs.length := by omega
      have hx : cs[j]? = some cs[j] := List.getElem?_eq_getElem hj
      have hg : (cs.map Ins.d).getD j .none = cs[j].d := by
        rw [List.getD_eq_getElem?_getD, List.getElem?_map, hx]
        rfl
      rw [hg] at bw2
      have hat := ins_at' hx
      have c2 : decide (((j + 1 : Nat) : Int) > 0) = true := decide_eq_true (by omega)
      have e1 : ((j + 1 : Nat) : Int) - 1 = (j : Int) := by omega
      refine ⟨j, cs[j].d, by omega, ins_nice _, ?_⟩
      generalize mach P (.list (cs.map Ins.d)) I S ((j + 1 : Nat) : Int) = M at *
      generalize mach P (.list (cs.map Ins.d)) I S (j : Int) = M2 at *
      generalize cs[j].d = ID at *
      generalize cs.map Ins.d = CC at *
      generalize ((j + 1 : Nat) : Int) = JJ at *
      simp only [e_nil, e_seq, e_fz, e_bk, e_ct, e_ret, e_retN, e_drop, e_set, e_if, e_for, e_cC, e_c2, e_c1, e_cA, e_aN, e_aC, e_cB, e_asB, e_bNot, e_bAnd, e_bOr, e_vAnd, e_vOr, e_vNot, e_vIf, e_bYes, e_iL, e_iT, e_iLb, e_iR, e_gL1, e_gL2, e_gL3, e_gT, e_gLb1, e_gLb2, e_gLb3, e_gLb4, e_nb1, e_nb2, e_bor1, e_bor2, e_bor3, e_bor4, e_arg1, e_arg2, e_arg3, e_arg4, e_putd, e_puto, e_toD1, e_toD2, e_allD0, e_allD1, e_allD2, e_gTupl, e_gList, e_tgnm, e_tgtp, e_tg0, e_tg1, e_sq1, e_sq2, e_sq3, e_sq4, e_sq5, e_qv2, e_qv3, e_qv4, e_qv5, e_data1, e_data2, e_data3, e_okI, e_okB, e_i2, e_sub, e_mul, e_mod, e_div, e_pow, e_lt, e_le, e_gt, e_ge, e_neg, e_addI, e_addS, e_addT, e_addL1, e_addL2, e_addL3, e_addL4, e_addL5, e_addL6, e_addL7, e_addL8, e_addL9, e_eq, e_ne, e_in, e_notIn, e_inT, e_inT2, e_inL1, e_inL2, e_inL3, e_is, e_isNot, e_isN1, e_isN2, e_isN3, e_isN4, e_isN5, e_isN6, e_isN7, e_ixT, e_ixL, e_ixO, e_ixB, e_ixSc, e_lenT, e_lenL, e_lenO, e_lenB, e_lenSc, e_lenS, e_tupT, e_tupL, e_tupO, e_tupB, e_lisT, e_lisL, e_lisO, e_lisB, e_min2, e_max2, e_any, e_all, e_sum, e_sorted, e_rev, e_sl, e_oN, e_isi, e_lc, e_wipe0, e_wipe1, e_iA, e_iAb, e_gAq1, e_gAq2, e_gAq3, e_gAqb1, e_gAqb2, e_gAqb3, e_gAqb4, e_no, e_cCh, e_cChI, e_aug, e_decT, e_decF, e_cDispS, e_cDT, e_cDK, e_cDisp1, e_storeA, e_stR1, e_stR2, e_stR3, e_sd1, e_keyD1, e_keyD2, e_keyTD, e_intsD, e_intsD0, e_borT, e_borT2, e_borK, e_borK2, e_argT, e_argT2, e_argK, e_argK2, e_nbT, e_nbK, e_putT, e_putK, e_gAt1, e_gAt2, e_gAt3, e_gAt4, e_gGetDK, e_gGetDT, e_gIxD, e_gInD, e_gNotInD, e_cGet1, e_cGet2, e_dk1, e_dk2, e_dk3, e_dk4, e_dt1, e_dt2, e_del, atI_zero, e_at1, e_at2, e_at3, e_at4, e_at5, e_at6, e_at7, e_at8, e_at9, e_atm, e_V, e_retV, e_unp, e_app, e_store, e_fzE, oS, rsO_some, Rs.bind_ok, Rs.bind_no, Rs.out_ok, Out.then_nx, Out.then_rt, Out.then_ct, Out.then_bk, fin_rt, fin_nx, List.getElem?_cons_zero, List.getElem?_cons_succ, List.set_cons_succ, List.set_cons_zero, List.length_cons, List.length_nil, Nat.reduceAdd, Nat.reduceLT, Nat.reduceLeDiff, Nat.reduceEqDiff, if_true, if_false, Bool.false_eq_true, Bool.not_true, Bool.not_false, and_self, true_and, and_true, List.map_cons, List.map_nil, Option.map_some, sh_int, sh_bool, sh_none, sh_tup, sh_lst, eqv_int, reduceIte, Option.bind_some, Option.bind_none, kitB_ll, kitB_lt, kitB_tt, kitB_tl, kitB_ii, tyD_list, tyD_int, Bool.true_and, Bool.false_and, Bool.and_true, Bool.and_false, Bool.or_true, Bool.true_or, Bool.false_or, Bool.or_false, Bool.and_self, Bool.or_self, e_cAK, List.append_nil, List.nil_append, List.cons_append, e_andB, e_orB, e_andR, e_orR, tyD_tuple, eqv_bool, eqv_none, tyD_bool, tyD_str, tyD_none, kitB_bb, kitB_nb, kitB_bi, kitB_ib, kitB_nl, kitB_nt, beq_self_eq_true, e_fldS, e_fld, e_obO, e_obB, e_fvd, e_fvl, e_fvF, e_toD, e_toL, e_retS, e_rmO, e_finM, e_finN, e_prop, e_okR, e_M, e_setM, e_appT, e_arO, e_boO, e_mCall, e_MF, e_plainD, e_pbD, e_pbB, e_mkO, e_MP, e_fapp, e_fvO, e_dropM, e_ifM, e_retM, e_retNS, e_m2, e_mB, e_mPT, e_mNot, e_mOr, e_nbo, Out.then_rm, MO.out_ok, MO.out_ex, MO.bind_ok, Rs.mo_ok, Option.map_some, and_self, if_true, true_and, and_true, List.all_cons, List.all_nil, Bool.and_true, putFV_nil, q1, hx0, c1, lc, c2, e1, hat, nobw, bw2]
theorem e_putob (i : Nat) (x : Str) (fs : List (Str × FV)) (env : VEnv) : putS i (.ob false x fs) env = if i < env.length then .nx (env.set i (some (.ob false x fs))) else .no := rfl
theorem turn_ok (ns : List Int) {m n : Nat} {ss : List Stp} {out : PyData} {cs : List Ins} {ins : List Int} (hm : 2 ≤ m) (hm2 : m ≤ 1000) (hc : ∀ i ∈ cs, i.ok n) (hl : cs.length ≤ 8) (hi : ins.length = n) (h1 : Regs m ins) (at_ : Nat) (ha : at_ ≤ cs.length) (k : Nat)
    (e4 e5 e9 e10 : Option RV) (r3 : RV) (h3 : r3 = .ol (ins.map .int) ∨ r3 = .d (.list (ins.map .int))) :
    ∃ (at' : Nat) (j9 j10 : Option RV), at' ≤ cs.length ∧ L0_law [some (.sc ns), some (.d (progD m n (.tuple (ss.map Stp.d)) out)), some (.ol (cs.map Ins.d)), some r3, e4, e5, some (.ob false "Machine" (mach (progD m n (.tuple (ss.map Stp.d)) out) (.list (cs.map Ins.d)) (.list (ins.map .int)) (.list ((statesM m ins cs).map rowD)) (at_ : Int))), some (.d (.int (at_ : Int))), some (.d (.int (k : Int))), e9, e10]
      = .nx [some (.sc ns), some (.d (progD m n (.tuple (ss.map Stp.d)) out)), some (.ol (cs.map Ins.d)), some (.d (.list (ins.map .int))), e4, e5, some (.ob false "Machine" (mach (progD m n (.tuple (ss.map Stp.d)) out) (.list (cs.map Ins.d)) (.list (ins.map .int)) (.list ((statesM m ins cs).map rowD)) (at' : Int))), some (.d (.int (at' : Int))), some (.d (.int (k : Int))), j9, j10] := by
  obtain ⟨at', D, h2, hD, hh⟩ := head_ok ns hl at_ ha k (progD m n (.tuple (ss.map Stp.d)) out) (.list (ins.map .int)) (.list ((statesM m ins cs).map rowD)) (some (.d (progD m n (.tuple (ss.map Stp.d)) out))) (some r3) e4 e5 e10
  have te := turn_end (ss := ss) (out := out) hm hm2 hc hl hi h1 at' h2 D hD (some (.sc ns)) e4 e5 (some (.d (.int (k : Int)))) r3 h3 (.list (ins.map .int))
  refine ⟨at', some (.d D), some (.d D), h2, ?_⟩
  rw [L0_split, e_seq]
  generalize mach (progD m n (.tuple (ss.map Stp.d)) out) (.list (cs.map Ins.d)) (.list (ins.map .int)) (.list ((statesM m ins cs).map rowD)) (at' : Int) = M2 at *
  generalize mach (progD m n (.tuple (ss.map Stp.d)) out) (.list (cs.map Ins.d)) (.list (ins.map .int)) (.list ((statesM m ins cs).map rowD)) (at_ : Int) = M at *
  have s0 : ∀ env : VEnv, 9 < env.length → sSet 9 (cC .none) env = .nx (env.set 9 (some (.d .none))) := fun env h => by
    show (Rs.ok (RV.d .none)).out env (fun r => putS 9 r env) = _
    rw [Rs.out_ok]
    show (if 9 < env.length then Out.nx _ else .no) = _
    rw [if_pos h]
  rw [s0 _ (by show 9 < 11; omega), Out.then_nx, e_seq]
  show (headL [some (.sc ns), some (.d (progD m n (.tuple (ss.map Stp.d)) out)), some (.ol (cs.map Ins.d)), some r3, e4, e5, some (.ob false "Machine" M), some (.d (.int (at_ : Int))), some (.d (.int (k : Int))), some (.d .none), e10]).then tailL = _
  rw [hh, Out.then_nx, te]
theorem law_holds (ns : List Int) (h : ns.length ≤ 63) : F_law [.sc ns] = .ok (.d (.bool true)) := by
  obtain ⟨m, n, ss, os, p1, m1, m2, n1, n2, _, _, _, _⟩ := program_ok ns 0 4 (by omega) (by omega)
  obtain ⟨cs, p2, g, hcl⟩ := random_ok ns 1 8 m n (.tuple (ss.map Stp.d)) (.tuple (os.map natI)) (by omega) (by omega) (by omega) (by omega) (by omega) (by omega)
  obtain ⟨ins, p3, i1, i2⟩ := inputs_ok ns 2 m n (.tuple (ss.map Stp.d)) (.tuple (os.map natI)) (by omega) (by omega) (by omega)
  have hc : ∀ i ∈ cs, i.ok n := fun i hi => (g i hi).ok (by omega) (by omega)
  have hm0 : (0 : Int) < (m : Int) := by omega
  have p1 : F__law_program [.sc ns, .d (.int 0), .d (.int 4)] = _ := p1
  have p2 : F__law_random [.sc ns, .d (.int 1), .d (progD m n (.tuple (ss.map Stp.d)) (.tuple (os.map natI))), .d (.int 8)] = _ := p2
  have p3 : F__law_inputs [.sc ns, .d (.int 2), .d (progD m n (.tuple (ss.map Stp.d)) (.tuple (os.map natI)))] = _ := p3
  have p4 := init_ok (m := (m : Int)) (n := (n : Int)) (st := .tuple (ss.map Stp.d)) (out := .tuple (os.map natI)) (cs := cs) (ins := ins) hm0 (by omega) hc (by omega) (a := .bl (ins.map .int)) (c := .bl (cs.map Ins.d)) (.inr rfl) (.inl rfl) i1 i2
  obtain ⟨N, hN⟩ : ∃ N : Nat, N = (min 33 (max 4 ns.length)) - 3 := ⟨_, rfl⟩
  have hrg : iR gR2 (aC (cC (.int 3)) (aC (cA gMin2 (aC (cC (.int 33)) (aC (cA gMax2 (aC (cC (.int 4)) (aC (cA gLen (aC (cV 0) aN)) aN))) aN))) aN)) = fun env => (iR gR2 (aC (cC (.int 3)) (aC (cA gMin2 (aC (cC (.int 33)) (aC (cA gMax2 (aC (cC (.int 4)) (aC (cA gLen (aC (cV 0) aN)) aN))) aN))) aN))) env := rfl
  have hcb : cs.length ≤ 8 := by omega
  have Lp := fun (e4 e5 : Option RV) => loopF_ex (tg := .nm 8) (f := L0_law) (fun i env => ∃ (at_ : Nat) (r3 : RV) (j8 j9 j10 : Option RV), at_ ≤ cs.length ∧ (r3 = .ol (ins.map .int) ∨ r3 = .d (.list (ins.map .int))) ∧ env = [some (.sc ns), some (.d (progD m n (.tuple (ss.map Stp.d)) (.tuple (os.map natI)))), some (.ol (cs.map Ins.d)), some r3, e4, e5, some (.ob false "Machine" (mach (progD m n (.tuple (ss.map Stp.d)) (.tuple (os.map natI))) (.list (cs.map Ins.d)) (.list (ins.map .int)) (.list ((statesM m ins cs).map rowD)) (at_ : Int))), some (.d (.int (at_ : Int))), j8, j9, j10])
    (fun i : Nat => PyData.int ((3 + i : Nat) : Int)) (List.range N) [some (.sc ns), some (.d (progD m n (.tuple (ss.map Stp.d)) (.tuple (os.map natI)))), some (.ol (cs.map Ins.d)), some (.ol (ins.map .int)), e4, e5, some (.ob false "Machine" (mach (progD m n (.tuple (ss.map Stp.d)) (.tuple (os.map natI))) (.list (cs.map Ins.d)) (.list (ins.map .int)) (.list ((statesM m ins cs).map rowD)) 0)), some (.d (.int 0)), none, none, none] (by
      rintro i env x hx ⟨at_, r3, j8, j9, j10, ha, h3, rfl⟩
      obtain ⟨at', k9, k10, h2, e⟩ := turn_ok ns (out := .tuple (os.map natI)) (ss := ss) m1 (by omega) hc hcb i1 i2 at_ ha (3 + x) e4 e5 j9 j10 r3 h3
      exact ⟨_, rfl, _, .inl e, at', .d (.list (ins.map .int)), _, _, _, h2, .inr rfl, rfl⟩) ⟨0, .ol (ins.map .int), none, none, none, by omega, .inl rfl, rfl⟩
  have hlen3 : ((3 : Int) ≤ 1000000) := by decide
  have hix0 : 0 < ins.length := by omega
  obtain ⟨x0, hx0⟩ : ∃ x0, ins[0]? = some x0 := ⟨ins[0], List.getElem?_eq_getElem hix0⟩
  have hat : atI (ins.map PyData.int) 0 = some (.int x0) := by
    have := atI_cons (ins.map PyData.int) 0 (by rw [List.length_map]; exact hix0)
    rw [List.getElem?_map, hx0] at this
    exact this
  have hixn : ixN (ins.map PyData.int).length 0 = some 0 := by
    have := ixN_nat (n := (ins.map PyData.int).length) (i := 0) (by rw [List.length_map]; exact hix0)
    exact this
  have hp0 : gIx (.d (progD m n (.tuple (ss.map Stp.d)) (.tuple (os.map natI)))) (.d (.int 0)) = .ok (.d (.int (m : Int))) := rfl
  have hmod : ∀ a : Int, gMod (.d (.int a)) (.d (.int (m : Int))) = .ok (.d (.int (a % (m : Int)))) := fun a => if_pos (by omega)
  have zc : (cs.map Ins.d).length ≤ 1000000 := by rw [List.length_map]; omega
  have hmk : mkO (fun rs => if rs.length = 4 then F_Machine___init__ rs else .no) "Machine" [.d (progD m n (.tuple (ss.map Stp.d)) (.tuple (os.map natI))), .bl (cs.map Ins.d), .bl (ins.map .int)] = .ok (.ob false "Machine" (mach (progD m n (.tuple (ss.map Stp.d)) (.tuple (os.map natI))) (.list (cs.map Ins.d)) (.list (ins.map .int)) (.list ((statesM m ins cs).map rowD)) 0)) := by
    show (if true = true then (match F_Machine___init__ [.ob true "Machine" [], .d (progD m n (.tuple (ss.map Stp.d)) (.tuple (os.map natI))), .bl (cs.map Ins.d), .bl (ins.map .int)] with
      | .ok x fs .none => Rs.ok (RV.ob false x fs)
      | _ => .no) else .no) = _
    rw [if_pos rfl, p4]
  show (B_law [some (.sc ns), none, none, none, none, none, none, none, none, none, none]).fin = _
  have gset : ∀ x : PyData, (ins.map PyData.int).set 0 x = (ins.map PyData.int).set 0 x := fun _ => rfl
  obtain ⟨env', e1, at_, r3, j8, j9, j10, ha, h3, rfl⟩ := Lp (some (.ol ((cs.map Ins.d) ++ [.tuple [.int 0, .str "+", .str "+", .str "0", .str "1"]]))) (some (.ol ((ins.map PyData.int).set 0 (.int ((x0 + 1) % (m : Int))))))
  have hR : gR2 [.d (.int 3), .d (.int (if (if (ns.length : Int) > 4 then (ns.length : Int) else 4) < 33 then (if (ns.length : Int) > 4 then (ns.length : Int) else 4) else 33))] = .ok ((List.range N).map fun i : Nat => PyData.int ((3 + i : Nat) : Int)) := by
    obtain ⟨p, hp⟩ : ∃ p : Int, p = (if (ns.length : Int) > 4 then (ns.length : Int) else 4) := ⟨_, rfl⟩
    rw [← hp]
    obtain ⟨q, hq⟩ : ∃ q : Int, q = (if p < 33 then p else 33) := ⟨_, rfl⟩
    rw [← hq]
    have hq2 : q = ((N + 3 : Nat) : Int) := by
      rw [hq, hp]
      split <;> split <;> omega
    rw [e_R2 (by decide) (by omega)]
    have : (q - 3).toNat = N := by omega
    rw [this]
    unfold rngL
    refine congrArg Rs.ok (List.map_congr_left fun i _ => ?_)
    show PyData.int (3 + (i : Int)) = _
    congr 1
  have p5 := registers_ok (progD m n (.tuple (ss.map Stp.d)) (.tuple (os.map natI))) (.list (ins.map .int)) (cs.map Ins.d) ((statesM m ins cs).map rowD) (at_ : Int) (stateM m ins cs at_) (states_at ha)
  have l8 : ((stateM m ins cs at_).map PyData.int).length = 8 := by
    rw [List.length_map]
    exact (state_ok hm0 ins (cs.take at_)).1
  unfold B_law
  generalize (List.range N).map (fun i : Nat => PyData.int ((3 + i : Nat) : Int)) = RG at *
  generalize mach (progD m n (.tuple (ss.map Stp.d)) (.tuple (os.map natI))) (.list (cs.map Ins.d)) (.list (ins.map .int)) (.list ((statesM m ins cs).map rowD)) 0 = M0 at *
  generalize mach (progD m n (.tuple (ss.map Stp.d)) (.tuple (os.map natI))) (.list (cs.map Ins.d)) (.list (ins.map .int)) (.list ((statesM m ins cs).map rowD)) (at_ : Int) = M1 at *
  generalize progD m n (.tuple (ss.map Stp.d)) (.tuple (os.map natI)) = P at *
  generalize (stateM m ins cs at_).map PyData.int = R at *
  generalize cs.map Ins.d = CC at *
  generalize ins.map PyData.int = IN at *
  simp only [e_nil, e_seq, e_fz, e_bk, e_ct, e_ret, e_retN, e_drop, e_set, e_if, e_for, e_cC, e_c2, e_c1, e_cA, e_aN, e_aC, e_cB, e_asB, e_bNot, e_bAnd, e_bOr, e_vAnd, e_vOr, e_vNot, e_vIf, e_bYes, e_iL, e_iT, e_iLb, e_iR, e_gL1, e_gL2, e_gL3, e_gT, e_gLb1, e_gLb2, e_gLb3, e_gLb4, e_nb1, e_nb2, e_bor1, e_bor2, e_bor3, e_bor4, e_arg1, e_arg2, e_arg3, e_arg4, e_putd, e_puto, e_toD1, e_toD2, e_allD0, e_allD1, e_allD2, e_gTupl, e_gList, e_tgnm, e_tgtp, e_tg0, e_tg1, e_sq1, e_sq2, e_sq3, e_sq4, e_sq5, e_qv2, e_qv3, e_qv4, e_qv5, e_data1, e_data2, e_data3, e_okI, e_okB, e_i2, e_sub, e_mul, e_mod, e_div, e_pow, e_lt, e_le, e_gt, e_ge, e_neg, e_addI, e_addS, e_addT, e_addL1, e_addL2, e_addL3, e_addL4, e_addL5, e_addL6, e_addL7, e_addL8, e_addL9, e_eq, e_ne, e_in, e_notIn, e_inT, e_inT2, e_inL1, e_inL2, e_inL3, e_is, e_isNot, e_isN1, e_isN2, e_isN3, e_isN4, e_isN5, e_isN6, e_isN7, e_ixT, e_ixL, e_ixO, e_ixB, e_ixSc, e_lenT, e_lenL, e_lenO, e_lenB, e_lenSc, e_lenS, e_tupT, e_tupL, e_tupO, e_tupB, e_lisT, e_lisL, e_lisO, e_lisB, e_min2, e_max2, e_any, e_all, e_sum, e_sorted, e_rev, e_sl, e_oN, e_isi, e_lc, e_wipe0, e_wipe1, e_iA, e_iAb, e_gAq1, e_gAq2, e_gAq3, e_gAqb1, e_gAqb2, e_gAqb3, e_gAqb4, e_no, e_cCh, e_cChI, e_aug, e_decT, e_decF, e_cDispS, e_cDT, e_cDK, e_cDisp1, e_storeA, e_stR1, e_stR2, e_stR3, e_sd1, e_keyD1, e_keyD2, e_keyTD, e_intsD, e_intsD0, e_borT, e_borT2, e_borK, e_borK2, e_argT, e_argT2, e_argK, e_argK2, e_nbT, e_nbK, e_putT, e_putK, e_gAt1, e_gAt2, e_gAt3, e_gAt4, e_gGetDK, e_gGetDT, e_gIxD, e_gInD, e_gNotInD, e_cGet1, e_cGet2, e_dk1, e_dk2, e_dk3, e_dk4, e_dt1, e_dt2, e_del, atI_zero, e_at1, e_at2, e_at3, e_at4, e_at5, e_at6, e_at7, e_at8, e_at9, e_atm, e_V, e_retV, e_unp, e_app, e_store, e_fzE, oS, rsO_some, Rs.bind_ok, Rs.bind_no, Rs.out_ok, Out.then_nx, Out.then_rt, Out.then_ct, Out.then_bk, fin_rt, fin_nx, List.getElem?_cons_zero, List.getElem?_cons_succ, List.set_cons_succ, List.set_cons_zero, List.length_cons, List.length_nil, Nat.reduceAdd, Nat.reduceLT, Nat.reduceLeDiff, Nat.reduceEqDiff, if_true, if_false, Bool.false_eq_true, Bool.not_true, Bool.not_false, and_self, true_and, and_true, List.map_cons, List.map_nil, Option.map_some, sh_int, sh_bool, sh_none, sh_tup, sh_lst, eqv_int, reduceIte, Option.bind_some, Option.bind_none, kitB_ll, kitB_lt, kitB_tt, kitB_tl, kitB_ii, tyD_list, tyD_int, Bool.true_and, Bool.false_and, Bool.and_true, Bool.and_false, Bool.or_true, Bool.true_or, Bool.false_or, Bool.or_false, Bool.and_self, Bool.or_self, e_cAK, List.append_nil, List.nil_append, List.cons_append, e_andB, e_orB, e_andR, e_orR, tyD_tuple, eqv_bool, eqv_none, tyD_bool, tyD_str, tyD_none, kitB_bb, kitB_nb, kitB_bi, kitB_ib, kitB_nl, kitB_nt, beq_self_eq_true, e_fldS, e_fld, e_obO, e_obB, e_fvd, e_fvl, e_fvF, e_toD, e_toL, e_retS, e_rmO, e_finM, e_finN, e_prop, e_okR, e_M, e_setM, e_appT, e_arO, e_boO, e_mCall, e_MF, e_plainD, e_pbD, e_pbB, e_mkO, e_MP, e_fapp, e_fvO, e_dropM, e_ifM, e_retM, e_retNS, e_m2, e_mB, e_mPT, e_mNot, e_mOr, e_nbo, Out.then_rm, MO.out_ok, MO.out_ex, MO.bind_ok, Rs.mo_ok, Option.map_some, and_self, if_true, true_and, and_true, List.all_cons, List.all_nil, Bool.and_true, putFV_nil, e_putob, p1, p2, p3, p4, e_app, if_pos zc, e_store, hat, hp0, hmod, hixn, hR, e1, p5, l8]
  rfl
def topS (i : Nat) : Stmt := PySem.Challenge.pw_tidyback_k63_machines_go_forward_and_bac.main.body.getD i (.Pass ⟨0, 0, 0, 0⟩)
structure Txt (K : PySem.W.Frag) (mg : Str → Option Value) (a_result_of a_source_value a_performed a_traced a_Machine___init__ a__law_cell a__law_draw a__law_operand a__law_program a__law_random a__law_inputs a_Machine_registers a_Machine_forward a_Machine_backward a_Machine_position a__law_result a__law_value a__law_after a_law aC_Machine aP_Machine_position aP_Machine_registers : Addr) : Prop where
  gc_Machine : mg "Machine" = some (.ref aC_Machine)
  ct_Machine : ClsT K "Machine" aC_Machine
  nf_Machine__code : NoAttr K aC_Machine "_code"
  nf_Machine__inputs : NoAttr K aC_Machine "_inputs"
  nf_Machine__position : NoAttr K aC_Machine "_position"
  nf_Machine__program : NoAttr K aC_Machine "_program"
  nf_Machine__states : NoAttr K aC_Machine "_states"
  mt_Machine_backward : Meth K aC_Machine "backward" a_Machine_backward
  mt_Machine_forward : Meth K aC_Machine "forward" a_Machine_forward
  pp_Machine_position : PropOf K aC_Machine "position" aP_Machine_position a_Machine_position
  pp_Machine_registers : PropOf K aC_Machine "registers" aP_Machine_registers a_Machine_registers
  mk_Machine : Mk K aC_Machine a_Machine___init__
  g_result_of : mg "result_of" = some (.ref a_result_of)
  k_result_of : PySem.W.keepIn K (.ref a_result_of) = true
  g_source_value : mg "source_value" = some (.ref a_source_value)
  k_source_value : PySem.W.keepIn K (.ref a_source_value) = true
  g_performed : mg "performed" = some (.ref a_performed)
  k_performed : PySem.W.keepIn K (.ref a_performed) = true
  g_traced : mg "traced" = some (.ref a_traced)
  k_traced : PySem.W.keepIn K (.ref a_traced) = true
  g__law_cell : mg "_law_cell" = some (.ref a__law_cell)
  k__law_cell : PySem.W.keepIn K (.ref a__law_cell) = true
  g__law_draw : mg "_law_draw" = some (.ref a__law_draw)
  k__law_draw : PySem.W.keepIn K (.ref a__law_draw) = true
  g__law_operand : mg "_law_operand" = some (.ref a__law_operand)
  k__law_operand : PySem.W.keepIn K (.ref a__law_operand) = true
  g__law_program : mg "_law_program" = some (.ref a__law_program)
  k__law_program : PySem.W.keepIn K (.ref a__law_program) = true
  g__law_random : mg "_law_random" = some (.ref a__law_random)
  k__law_random : PySem.W.keepIn K (.ref a__law_random) = true
  g__law_inputs : mg "_law_inputs" = some (.ref a__law_inputs)
  k__law_inputs : PySem.W.keepIn K (.ref a__law_inputs) = true
  g__law_result : mg "_law_result" = some (.ref a__law_result)
  k__law_result : PySem.W.keepIn K (.ref a__law_result) = true
  g__law_value : mg "_law_value" = some (.ref a__law_value)
  k__law_value : PySem.W.keepIn K (.ref a__law_value) = true
  g__law_after : mg "_law_after" = some (.ref a__law_after)
  k__law_after : PySem.W.keepIn K (.ref a__law_after) = true
  g_law : mg "law" = some (.ref a_law)
  k_law : PySem.W.keepIn K (.ref a_law) = true
  z_int : mg "int" = none
  z_len : mg "len" = none
  z_list : mg "list" = none
  z_max : mg "max" = none
  z_min : mg "min" = none
  z_range : mg "range" = none
  z_str : mg "str" = none
  z_tuple : mg "tuple" = none
  c_REGISTERS : ∃ t, mg "REGISTERS" = some (.int 8 t)
section
variable {P : Program} {w : World} {K : PySem.W.Frag} {mg : Str → Option Value} {base : Heap} {ca : CA} {a_result_of a_source_value a_performed a_traced a_Machine___init__ a__law_cell a__law_draw a__law_operand a__law_program a__law_random a__law_inputs a_Machine_registers a_Machine_forward a_Machine_backward a_Machine_position a__law_result a__law_value a__law_after a_law aC_Machine aP_Machine_position aP_Machine_registers : Addr}
abbrev s_result_of : Stmt := topS 7
abbrev n_result_of : List Str := ["operation", "left", "right"]
theorem sc_result_of : FnScope n_result_of ["operation", "left", "right"] (defScope s_result_of) := ⟨rfl, rfl, rfl, by decide +kernel, rfl, by decide +kernel, by decide +kernel⟩
theorem ok_result_of (T : Txt K mg a_result_of a_source_value a_performed a_traced a_Machine___init__ a__law_cell a__law_draw a__law_operand a__law_program a__law_random a__law_inputs a_Machine_registers a_Machine_forward a_Machine_backward a_Machine_position a__law_result a__law_value a__law_after a_law aC_Machine aP_Machine_position aP_Machine_registers) {fd : FuncData} (F : Fun K "result_of" "result_of" s_result_of a_result_of fd) : FnOk P w K mg base (L2.CX P w) 1 a_result_of fd ["operation", "left", "right"] (spV K ca 3 F_result_of) :=
  fn_ok (k := 0) (N := n_result_of) (body := B_result_of) F sc_result_of (fun cdv A outer s H E hr tk hp =>
    (vss_cons (vs_if (vt_cmp (op_eqD hr.units) s_eq (vv 0) ve_str (nomark _)) (vss_one (vs_ret (ve_op op_addA s_add (vv 1) (vv 2)))) vss_nil)
    (vss_cons (vs_if (vt_cmp (op_eqD hr.units) s_eq (vv 0) ve_str (nomark _)) (vss_one (vs_ret (ve_op op_sub s_sub (vv 1) (vv 2)))) vss_nil)
    (vss_one (vs_ret (ve_op op_mul s_mul (vv 1) (vv 2)))))))
abbrev s_source_value : Stmt := topS 6
abbrev n_source_value : List Str := ["source", "inputs", "registers"]
theorem sc_source_value : FnScope n_source_value ["source", "inputs", "registers"] (defScope s_source_value) := ⟨rfl, rfl, rfl, by decide +kernel, rfl, by decide +kernel, by decide +kernel⟩
theorem ok_source_value (T : Txt K mg a_result_of a_source_value a_performed a_traced a_Machine___init__ a__law_cell a__law_draw a__law_operand a__law_program a__law_random a__law_inputs a_Machine_registers a_Machine_forward a_Machine_backward a_Machine_position a__law_result a__law_value a__law_after a_law aC_Machine aP_Machine_position aP_Machine_registers) {fd : FuncData} (F : Fun K "source_value" "source_value" s_source_value a_source_value fd) : FnOk P w K mg base (L2.CX P w) 1 a_source_value fd ["source", "inputs", "registers"] (spV K ca 3 F_source_value) :=
  fn_ok (k := 0) (N := n_source_value) (body := B_source_value) F sc_source_value (fun cdv A outer s H E hr tk hp =>
    (vss_cons (vs_if (vt_cmp (op_eqD hr.units) s_eq (ve_ix ix_seq s_ix (vv 0) ve_int (fun _ _ => rfl)) ve_str (nomark _)) (vss_one (vs_ret (ve_ix ix_seq s_ix (vv 1) (ve_callTy call_int_str c_int (by rfl) T.z_int (by decide +kernel) (va_cons (ve_sl (vv 0) (vo_some ve_int) vo_none) va_nil)) (fun _ _ => rfl)))) vss_nil)
    (vss_cons (vs_if (vt_cmp (op_eqD hr.units) s_eq (ve_ix ix_seq s_ix (vv 0) ve_int (fun _ _ => rfl)) ve_str (nomark _)) (vss_one (vs_ret (ve_ix ix_seq s_ix (vv 2) (ve_callTy call_int_str c_int (by rfl) T.z_int (by decide +kernel) (va_cons (ve_sl (vv 0) (vo_some ve_int) vo_none) va_nil)) (fun _ _ => rfl)))) vss_nil)
    (vss_one (vs_ret (ve_callTy call_int_str c_int (by rfl) T.z_int (by decide +kernel) (va_cons (vv 0) va_nil)))))))
abbrev s_performed : Stmt := topS 8
abbrev n_performed : List Str := ["program", "instruction", "inputs", "registers", "cell", "sign", "operation", "left", "right", "result", "contents"]
theorem sc_performed : FnScope n_performed ["program", "instruction", "inputs", "registers"] (defScope s_performed) := ⟨rfl, rfl, rfl, by decide +kernel, rfl, by decide +kernel, by decide +kernel⟩
theorem ok_performed (T : Txt K mg a_result_of a_source_value a_performed a_traced a_Machine___init__ a__law_cell a__law_draw a__law_operand a__law_program a__law_random a__law_inputs a_Machine_registers a_Machine_forward a_Machine_backward a_Machine_position a__law_result a__law_value a__law_after a_law aC_Machine aP_Machine_position aP_Machine_registers) {fd_result_of : FuncData} (G_result_of : FnOk P w K mg base (L2.CX P w) 1 a_result_of fd_result_of ["operation", "left", "right"] (spV K ca 3 F_result_of)) (b_result_of : Binds K fd_result_of ["operation", "left", "right"] []) {fd_source_value : FuncData} (G_source_value : FnOk P w K mg base (L2.CX P w) 1 a_source_value fd_source_value ["source", "inputs", "registers"] (spV K ca 3 F_source_value)) (b_source_value : Binds K fd_source_value ["source", "inputs", "registers"] []) {fd : FuncData} (F : Fun K "performed" "performed" s_performed a_performed fd) : FnOk P w K mg base (L2.CX P w) 2 a_performed fd ["program", "instruction", "inputs", "registers"] (spV K ca 4 F_performed) :=
  fn_ok (k := 1) (N := n_performed) (body := B_performed) F sc_performed (fun cdv A outer s H E hr tk hp =>
    (vss_cons (vs_unp (vv 1) (vg_tup rfl (vgs_cons sc_performed.nd rfl (Or.inl rfl) (vgs_cons sc_performed.nd rfl (Or.inl rfl) (vgs_cons sc_performed.nd rfl (Or.inl rfl) (vgs_cons sc_performed.nd rfl (Or.inl rfl) (vgs_cons sc_performed.nd rfl (Or.inl rfl) vgs_nil)))))))
    (vss_cons (vs_set (i := 9) sc_performed.nd rfl (Or.inl rfl) (ve_call G_result_of (hr.mono (by decide)) (by rfl) T.g_result_of T.k_result_of b_result_of tk (va_cons (vv 6) (va_cons (ve_call G_source_value (hr.mono (by decide)) (by rfl) T.g_source_value T.k_source_value b_source_value tk (va_cons (vv 7) (va_cons (vv 2) (va_cons (vv 3) va_nil)))) (va_cons (ve_call G_source_value (hr.mono (by decide)) (by rfl) T.g_source_value T.k_source_value b_source_value tk (va_cons (vv 8) (va_cons (vv 2) (va_cons (vv 3) va_nil)))) va_nil)))))
    (vss_cons (vs_set (i := 10) sc_performed.nd rfl (Or.inl rfl) (ve_callTy call_list_of c_list (by rfl) T.z_list (by decide +kernel) (va_cons (vv 3) va_nil)))
    (vss_cons (vs_if (vt_cmp (op_eqD hr.units) s_eq (vv 5) ve_str (nomark _)) (vss_one (vs_store 10 (ve_op op_mod s_mod (ve_op op_addA s_add (ve_ix ix_seq s_ix (vv 10) (vv 4) (fun _ _ => rfl)) (vv 9)) (ve_ix ix_seq s_ix (vv 0) ve_int (fun _ _ => rfl))) (vv 4))) (vss_one (vs_store 10 (ve_op op_mod s_mod (ve_op op_sub s_sub (ve_ix ix_seq s_ix (vv 10) (vv 4) (fun _ _ => rfl)) (vv 9)) (ve_ix ix_seq s_ix (vv 0) ve_int (fun _ _ => rfl))) (vv 4))))
    (vss_one (vs_retv 10)))))))
abbrev s_traced : Stmt := topS 9
abbrev n_traced : List Str := ["program", "code", "inputs", "states", "instruction"]
theorem sc_traced : FnScope n_traced ["program", "code", "inputs"] (defScope s_traced) := ⟨rfl, rfl, rfl, by decide +kernel, rfl, by decide +kernel, by decide +kernel⟩
theorem ok_traced (T : Txt K mg a_result_of a_source_value a_performed a_traced a_Machine___init__ a__law_cell a__law_draw a__law_operand a__law_program a__law_random a__law_inputs a_Machine_registers a_Machine_forward a_Machine_backward a_Machine_position a__law_result a__law_value a__law_after a_law aC_Machine aP_Machine_position aP_Machine_registers) {fd_performed : FuncData} (G_performed : FnOk P w K mg base (L2.CX P w) 2 a_performed fd_performed ["program", "instruction", "inputs", "registers"] (spV K ca 4 F_performed)) (b_performed : Binds K fd_performed ["program", "instruction", "inputs", "registers"] []) {fd : FuncData} (F : Fun K "traced" "traced" s_traced a_traced fd) : FnOk P w K mg base (L2.CX P w) 3 a_traced fd ["program", "code", "inputs"] (spV K ca 3 F_traced) :=
  fn_ok (k := 2) (N := n_traced) (body := B_traced) F sc_traced (fun cdv A outer s H E hr tk hp =>
    (vss_cons (vs_set (i := 3) sc_traced.nd rfl (Or.inl rfl) (ve_lst (va_cons (ve_op op_rep s_rep (ve_lst (va_cons ve_int va_nil)) (ve_gint (by rfl) T.c_REGISTERS.choose_spec)) va_nil)))
    (vss_cons (vs_forB 1 hp rfl (vg_name sc_traced.nd rfl (Or.inl rfl)) (vss_one (vs_app 3 (ve_call G_performed (hr.mono (by decide)) (by rfl) T.g_performed T.k_performed b_performed tk (va_cons (vv 0) (va_cons (vv 4) (va_cons (vv 2) (va_cons (ve_ix ix_seq s_ix (vv 3) (ve_un un_neg s_neg ve_int) (fun _ _ => rfl)) va_nil))))))))
    (vss_one (vs_retv 3)))))
abbrev s_Machine___init__ : Stmt := (clsBody (topS 11)).getD 0 (.Pass ⟨0, 0, 0, 0⟩)
abbrev n_Machine___init__ : List Str := ["self", "program", "code", "inputs"]
theorem sc_Machine___init__ : FnScope n_Machine___init__ ["self", "program", "code", "inputs"] (defScope s_Machine___init__) := ⟨rfl, rfl, rfl, by decide +kernel, rfl, by decide +kernel, by decide +kernel⟩
theorem ok_Machine___init__ (T : Txt K mg a_result_of a_source_value a_performed a_traced a_Machine___init__ a__law_cell a__law_draw a__law_operand a__law_program a__law_random a__law_inputs a_Machine_registers a_Machine_forward a_Machine_backward a_Machine_position a__law_result a__law_value a__law_after a_law aC_Machine aP_Machine_position aP_Machine_registers) {fd_traced : FuncData} (G_traced : FnOk P w K mg base (L2.CX P w) 3 a_traced fd_traced ["program", "code", "inputs"] (spV K ca 3 F_traced)) (b_traced : Binds K fd_traced ["program", "code", "inputs"] []) {fd : FuncData} (F : Fun K "__init__" "Machine.__init__" s_Machine___init__ a_Machine___init__ fd) : FnOk P w K mg base (L2.CX P w) 4 a_Machine___init__ fd ["self", "program", "code", "inputs"] (spM K ca 4 F_Machine___init__) :=
  fn_okM (k := 3) (N := n_Machine___init__) (body := B_Machine___init__) F sc_Machine___init__ (fun cdv A outer s H E hr tk hp =>
    (vss_cons (vs_fldS false 0 T.ct_Machine T.nf_Machine__program (vv 1))
    (vss_cons (vs_fldS false 0 T.ct_Machine T.nf_Machine__code (ve_callTy call_list_of c_list (by rfl) T.z_list (by decide +kernel) (va_cons (vv 2) va_nil)))
    (vss_cons (vs_fldS false 0 T.ct_Machine T.nf_Machine__inputs (ve_callTy call_list_of c_list (by rfl) T.z_list (by decide +kernel) (va_cons (vv 3) va_nil)))
    (vss_cons (vs_fldS false 0 T.ct_Machine T.nf_Machine__states (ve_call G_traced (hr.mono (by decide)) (by rfl) T.g_traced T.k_traced b_traced tk (va_cons (vv 1) (va_cons (vv 2) (va_cons (vv 3) va_nil)))))
    (vss_one (vs_fldS false 0 T.ct_Machine T.nf_Machine__position ve_int)))))))
abbrev s__law_cell : Stmt := topS 13
abbrev n__law_cell : List Str := ["_law_script", "_law_k"]
theorem sc__law_cell : FnScope n__law_cell ["_law_script", "_law_k"] (defScope s__law_cell) := ⟨rfl, rfl, rfl, by decide +kernel, rfl, by decide +kernel, by decide +kernel⟩
theorem ok__law_cell (T : Txt K mg a_result_of a_source_value a_performed a_traced a_Machine___init__ a__law_cell a__law_draw a__law_operand a__law_program a__law_random a__law_inputs a_Machine_registers a_Machine_forward a_Machine_backward a_Machine_position a__law_result a__law_value a__law_after a_law aC_Machine aP_Machine_position aP_Machine_registers) {fd : FuncData} (F : Fun K "_law_cell" "_law_cell" s__law_cell a__law_cell fd) : FnOk P w K mg base (L2.CX P w) 1 a__law_cell fd ["_law_script", "_law_k"] (spV K ca 2 F__law_cell) :=
  fn_ok (k := 0) (N := n__law_cell) (body := B__law_cell) F sc__law_cell (fun cdv A outer s H E hr tk hp =>
    (vss_cons (vs_if (vt_cmp op_lt s_lt (vv 1) (ve_callB call_lenA c_len (by rfl) T.z_len (by decide +kernel) (va_cons (vv 0) va_nil)) (nomark _)) (vss_one (vs_ret (ve_ix ix_seq s_ix (vv 0) (vv 1) (fun _ _ => rfl)))) vss_nil)
    (vss_one (vs_ret ve_int))))
abbrev s__law_draw : Stmt := topS 14
abbrev n__law_draw : List Str := ["_law_script", "_law_k", "_law_sizes", "_law_cell_here", "_law_drawn", "_law_size", "_law_mixed", "_law_j"]
theorem sc__law_draw : FnScope n__law_draw ["_law_script", "_law_k", "_law_sizes"] (defScope s__law_draw) := ⟨rfl, rfl, rfl, by decide +kernel, rfl, by decide +kernel, by decide +kernel⟩
theorem ok__law_draw (T : Txt K mg a_result_of a_source_value a_performed a_traced a_Machine___init__ a__law_cell a__law_draw a__law_operand a__law_program a__law_random a__law_inputs a_Machine_registers a_Machine_forward a_Machine_backward a_Machine_position a__law_result a__law_value a__law_after a_law aC_Machine aP_Machine_position aP_Machine_registers) {fd__law_cell : FuncData} (G__law_cell : FnOk P w K mg base (L2.CX P w) 1 a__law_cell fd__law_cell ["_law_script", "_law_k"] (spV K ca 2 F__law_cell)) (b__law_cell : Binds K fd__law_cell ["_law_script", "_law_k"] []) {fd : FuncData} (F : Fun K "_law_draw" "_law_draw" s__law_draw a__law_draw fd) : FnOk P w K mg base (L2.CX P w) 2 a__law_draw fd ["_law_script", "_law_k", "_law_sizes"] (spV K ca 3 F__law_draw) :=
  fn_ok (k := 1) (N := n__law_draw) (body := B__law_draw) F sc__law_draw (fun cdv A outer s H E hr tk hp =>
    (vss_cons (vs_set (i := 3) sc__law_draw.nd rfl (Or.inl rfl) (ve_call G__law_cell (hr.mono (by decide)) (by rfl) T.g__law_cell T.k__law_cell b__law_cell tk (va_cons (vv 0) (va_cons (vv 1) va_nil))))
    (vss_cons (vs_if (vt_cmp op_lt s_lt (vv 3) ve_int (nomark _)) (vss_one (vs_set (i := 3) sc__law_draw.nd rfl (Or.inl rfl) (ve_un un_neg s_neg (vv 3)))) vss_nil)
    (vss_cons (vs_set (i := 4) sc__law_draw.nd rfl (Or.inl rfl) (ve_lst va_nil))
    (vss_cons (vs_if (vt_cmp op_ge s_ge (vv 3) (ve_op op_pow s_pow ve_int ve_int) (nomark _)) (vss_cons (vs_set (i := 3) sc__law_draw.nd rfl (Or.inl rfl) (ve_op op_sub s_sub (vv 3) (ve_op op_pow s_pow ve_int ve_int)))
    (vss_cons (vs_for hp rfl (vi_list (vv 2)) (vg_name sc__law_draw.nd rfl (Or.inl rfl)) (vss_cons (vs_app 4 (ve_op op_mod s_mod (vv 3) (vv 5)))
    (vss_one (vs_set (i := 3) sc__law_draw.nd rfl (Or.inl rfl) (ve_op op_fdiv s_div (vv 3) (vv 5))))))
    (vss_one (vs_retv 4)))) vss_nil)
    (vss_cons (vs_set (i := 6) sc__law_draw.nd rfl (Or.inl rfl) (ve_op op_mod s_mod (ve_op op_addA s_add (ve_op op_addA s_add (vv 3) ve_int) (ve_op op_mul s_mul ve_int (vv 1))) ve_int))
    (vss_cons (vs_for hp rfl (vi_range1 (by rfl) T.z_range (va_cons (ve_callB call_lenA c_len (by rfl) T.z_len (by decide +kernel) (va_cons (vv 2) va_nil)) va_nil)) (vg_name sc__law_draw.nd rfl (Or.inl rfl)) (vss_cons (vs_set (i := 6) sc__law_draw.nd rfl (Or.inl rfl) (ve_op op_mod s_mod (ve_op op_addA s_add (ve_op op_addA s_add (ve_op op_mul s_mul (vv 6) ve_int) ve_int) (vv 7)) ve_int))
    (vss_cons (vs_set (i := 6) sc__law_draw.nd rfl (Or.inl rfl) (ve_op op_mod s_mod (ve_op op_addA s_add (ve_op op_mul s_mul (vv 6) ve_int) ve_int) ve_int))
    (vss_one (vs_app 4 (ve_op op_mod s_mod (ve_op op_fdiv s_div (vv 6) ve_int) (ve_ix ix_seq s_ix (vv 2) (vv 7) (fun _ _ => rfl))))))))
    (vss_one (vs_retv 4)))))))))
abbrev s__law_operand : Stmt := topS 15
abbrev n__law_operand : List Str := ["_law_kind", "_law_number", "_law_modulus", "_law_inputs_here", "_law_many"]
theorem sc__law_operand : FnScope n__law_operand ["_law_kind", "_law_number", "_law_modulus", "_law_inputs_here", "_law_many"] (defScope s__law_operand) := ⟨rfl, rfl, rfl, by decide +kernel, rfl, by decide +kernel, by decide +kernel⟩
theorem ok__law_operand (T : Txt K mg a_result_of a_source_value a_performed a_traced a_Machine___init__ a__law_cell a__law_draw a__law_operand a__law_program a__law_random a__law_inputs a_Machine_registers a_Machine_forward a_Machine_backward a_Machine_position a__law_result a__law_value a__law_after a_law aC_Machine aP_Machine_position aP_Machine_registers) {fd : FuncData} (F : Fun K "_law_operand" "_law_operand" s__law_operand a__law_operand fd) : FnOk P w K mg base (L2.CX P w) 1 a__law_operand fd ["_law_kind", "_law_number", "_law_modulus", "_law_inputs_here", "_law_many"] (spV K ca 5 F__law_operand) :=
  fn_ok (k := 0) (N := n__law_operand) (body := B__law_operand) F sc__law_operand (fun cdv A outer s H E hr tk hp =>
    (vss_cons (vs_if (vt_cmp (op_eqD hr.units) s_eq (vv 0) ve_int (nomark _)) (vss_one (vs_ret (ve_op op_addA s_add ve_str (ve_callTy call_str_int c_str (by rfl) T.z_str (by decide +kernel) (va_cons (ve_op op_mod s_mod (vv 1) (vv 3)) va_nil))))) vss_nil)
    (vss_cons (vs_if (vw (vw_or (vt_cmp (op_eqD hr.units) s_eq (vv 0) ve_int (nomark _)) (vw_or1 (vt_cmp (op_eqD hr.units) s_eq (vv 4) ve_int (nomark _))))) (vss_one (vs_ret (ve_callTy call_str_int c_str (by rfl) T.z_str (by decide +kernel) (va_cons (ve_op op_mod s_mod (vv 1) (vv 2)) va_nil)))) vss_nil)
    (vss_one (vs_ret (ve_op op_addA s_add ve_str (ve_callTy call_str_int c_str (by rfl) T.z_str (by decide +kernel) (va_cons (ve_op op_sub s_sub (ve_op op_sub s_sub (vv 4) ve_int) (ve_op op_mod s_mod (vv 1) (vv 4))) va_nil))))))))
abbrev s__law_program : Stmt := topS 16
abbrev n__law_program : List Str := ["_law_script", "_law_k", "_law_most", "_law_digits", "_law_modulus", "_law_inputs_here", "_law_steps", "_law_j", "_law_row", "_law_left", "_law_right", "_law_outputs"]
theorem sc__law_program : FnScope n__law_program ["_law_script", "_law_k", "_law_most"] (defScope s__law_program) := ⟨rfl, rfl, rfl, by decide +kernel, rfl, by decide +kernel, by decide +kernel⟩
theorem ok__law_program (T : Txt K mg a_result_of a_source_value a_performed a_traced a_Machine___init__ a__law_cell a__law_draw a__law_operand a__law_program a__law_random a__law_inputs a_Machine_registers a_Machine_forward a_Machine_backward a_Machine_position a__law_result a__law_value a__law_after a_law aC_Machine aP_Machine_position aP_Machine_registers) {fd__law_draw : FuncData} (G__law_draw : FnOk P w K mg base (L2.CX P w) 2 a__law_draw fd__law_draw ["_law_script", "_law_k", "_law_sizes"] (spV K ca 3 F__law_draw)) (b__law_draw : Binds K fd__law_draw ["_law_script", "_law_k", "_law_sizes"] []) {fd__law_operand : FuncData} (G__law_operand : FnOk P w K mg base (L2.CX P w) 1 a__law_operand fd__law_operand ["_law_kind", "_law_number", "_law_modulus", "_law_inputs_here", "_law_many"] (spV K ca 5 F__law_operand)) (b__law_operand : Binds K fd__law_operand ["_law_kind", "_law_number", "_law_modulus", "_law_inputs_here", "_law_many"] []) {fd : FuncData} (F : Fun K "_law_program" "_law_program" s__law_program a__law_program fd) : FnOk P w K mg base (L2.CX P w) 3 a__law_program fd ["_law_script", "_law_k", "_law_most"] (spV K ca 3 F__law_program) :=
  fn_ok (k := 2) (N := n__law_program) (body := B__law_program) F sc__law_program (fun cdv A outer s H E hr tk hp =>
    (vss_cons (vs_set (i := 3) sc__law_program.nd rfl (Or.inr rfl) (ve_call G__law_draw (hr.mono (by decide)) (by rfl) T.g__law_draw T.k__law_draw b__law_draw tk (va_cons (vv 0) (va_cons (vv 1) (va_cons (ve_op op_addA s_add (ve_op op_addA s_add (ve_lst (va_cons ve_int (va_cons ve_int (va_cons (vv 2) va_nil)))) (ve_op op_rep s_rep (ve_lst (va_cons ve_int (va_cons ve_int (va_cons ve_int (va_cons ve_int (va_cons ve_int va_nil)))))) ve_int)) (ve_op op_rep s_rep (ve_lst (va_cons ve_int va_nil)) ve_int)) va_nil)))))
    (vss_cons (vs_set (i := 4) sc__law_program.nd rfl (Or.inl rfl) (ve_op op_addA s_add ve_int (ve_ix ix_seq s_ix (vv 3) ve_int (fun _ _ => rfl))))
    (vss_cons (vs_set (i := 5) sc__law_program.nd rfl (Or.inl rfl) (ve_op op_addA s_add ve_int (ve_ix ix_seq s_ix (vv 3) ve_int (fun _ _ => rfl))))
    (vss_cons (vs_set (i := 6) sc__law_program.nd rfl (Or.inl rfl) (ve_lst va_nil))
    (vss_cons (vs_for hp rfl (vi_range1 (by rfl) T.z_range (va_cons (ve_op op_addA s_add ve_int (ve_ix ix_seq s_ix (vv 3) ve_int (fun _ _ => rfl))) va_nil)) (vg_name sc__law_program.nd rfl (Or.inl rfl)) (vss_cons (vs_set (i := 8) sc__law_program.nd rfl (Or.inl rfl) (ve_sl (vv 3) (vo_some (ve_op op_addA s_add ve_int (ve_op op_mul s_mul ve_int (vv 7)))) (vo_some (ve_op op_addA s_add ve_int (ve_op op_mul s_mul ve_int (vv 7))))))
    (vss_cons (vs_fz 5 (vs_fz 4 (vs_set (i := 9) sc__law_program.nd rfl (Or.inl rfl) (ve_call G__law_operand (hr.mono (by decide)) (by rfl) T.g__law_operand T.k__law_operand b__law_operand tk (va_cons (ve_ix ix_seq s_ix (vv 8) ve_int (fun _ _ => rfl)) (va_cons (ve_ix ix_seq s_ix (vv 8) ve_int (fun _ _ => rfl)) (va_cons (vv 4) (va_cons (vv 5) (va_cons (ve_callB call_lenA c_len (by rfl) T.z_len (by decide +kernel) (va_cons (vv 6) va_nil)) va_nil)))))))))
    (vss_cons (vs_fz 5 (vs_fz 4 (vs_set (i := 10) sc__law_program.nd rfl (Or.inl rfl) (ve_call G__law_operand (hr.mono (by decide)) (by rfl) T.g__law_operand T.k__law_operand b__law_operand tk (va_cons (ve_ix ix_seq s_ix (vv 8) ve_int (fun _ _ => rfl)) (va_cons (ve_ix ix_seq s_ix (vv 8) ve_int (fun _ _ => rfl)) (va_cons (vv 4) (va_cons (vv 5) (va_cons (ve_callB call_lenA c_len (by rfl) T.z_len (by decide +kernel) (va_cons (vv 6) va_nil)) va_nil)))))))))
    (vss_one (vs_fz 10 (vs_fz 9 (vs_if (vt_cmp (op_notInA (hu65 hr)) s_notIn (ve_tup (va_cons (ve_ix ix_seq s_ix ve_str (ve_ix ix_seq s_ix (vv 8) ve_int (fun _ _ => rfl)) (fun _ _ => rfl)) (va_cons (vv 9) (va_cons (vv 10) va_nil)))) (vv 6) (by rfl)) (vss_one (vs_fz 10 (vs_fz 9 (vs_app 6 (ve_tup (va_cons (ve_ix ix_seq s_ix ve_str (ve_ix ix_seq s_ix (vv 8) ve_int (fun _ _ => rfl)) (fun _ _ => rfl)) (va_cons (vv 9) (va_cons (vv 10) va_nil)))))))) vss_nil))))))))
    (vss_cons (vs_setLc (i := 11) (own := [("_law_j", 7)]) rfl sc__law_program.nd rfl rfl (sw_true rfl rfl rfl (by decide +kernel)) (vi_range1 (by rfl) T.z_range (va_cons (ve_callB call_lenA c_len (by rfl) T.z_len (by decide +kernel) (va_cons (vv 6) va_nil)) va_nil)).vj (blkOk_by (own := [("_law_j", 7)]) (N := n__law_program) (sc := defScope s__law_program) (by decide +kernel)) (by decide) (fun _ _ _ _ _ => (vg_name sc__law_program.nd rfl (Or.inl rfl))) (fun _ _ _ _ _ => (vts_one (vt_cmp (op_eqD hr.units) s_eq (ve_ix ix_seq s_ix (vv 3) (ve_op op_addA s_add ve_int (vv 7)) (fun _ _ => rfl)) ve_int (nomark _)))) (fun _ _ _ _ _ => (vv 7)))
    (vss_cons (vs_if (vt_cmp (op_notInA (hu65 hr)) s_notIn (ve_op op_sub s_sub (ve_callB call_lenA c_len (by rfl) T.z_len (by decide +kernel) (va_cons (vv 6) va_nil)) ve_int) (vv 11) (by rfl)) (vss_one (vs_app 11 (ve_op op_sub s_sub (ve_callB call_lenA c_len (by rfl) T.z_len (by decide +kernel) (va_cons (vv 6) va_nil)) ve_int))) vss_nil)
    (vss_one (vs_fz 5 (vs_fz 4 (vs_ret (ve_tup (va_cons (vv 4) (va_cons (vv 5) (va_cons (ve_callTy call_tupN c_tuple (by rfl) T.z_tuple (by decide +kernel) (va_cons (vv 6) va_nil)) (va_cons (ve_callTy call_tupN c_tuple (by rfl) T.z_tuple (by decide +kernel) (va_cons (vv 11) va_nil)) va_nil)))))))))))))))))
abbrev s__law_random : Stmt := topS 21
abbrev n__law_random : List Str := ["_law_script", "_law_k", "_law_program_here", "_law_most", "_law_code", "_law_digits", "_law_j", "_law_row", "_law_words", "_law_kind", "_law_number", "_law_word"]
theorem sc__law_random : FnScope n__law_random ["_law_script", "_law_k", "_law_program_here", "_law_most"] (defScope s__law_random) := ⟨rfl, rfl, rfl, by decide +kernel, rfl, by decide +kernel, by decide +kernel⟩
theorem ok__law_random (T : Txt K mg a_result_of a_source_value a_performed a_traced a_Machine___init__ a__law_cell a__law_draw a__law_operand a__law_program a__law_random a__law_inputs a_Machine_registers a_Machine_forward a_Machine_backward a_Machine_position a__law_result a__law_value a__law_after a_law aC_Machine aP_Machine_position aP_Machine_registers) {fd__law_draw : FuncData} (G__law_draw : FnOk P w K mg base (L2.CX P w) 2 a__law_draw fd__law_draw ["_law_script", "_law_k", "_law_sizes"] (spV K ca 3 F__law_draw)) (b__law_draw : Binds K fd__law_draw ["_law_script", "_law_k", "_law_sizes"] []) {fd : FuncData} (F : Fun K "_law_random" "_law_random" s__law_random a__law_random fd) : FnOk P w K mg base (L2.CX P w) 3 a__law_random fd ["_law_script", "_law_k", "_law_program_here", "_law_most"] (spV K ca 4 F__law_random) :=
  fn_ok (k := 2) (N := n__law_random) (body := B__law_random) F sc__law_random (fun cdv A outer s H E hr tk hp =>
    (vss_cons (vs_set (i := 4) sc__law_random.nd rfl (Or.inl rfl) (ve_lst va_nil))
    (vss_cons (vs_set (i := 5) sc__law_random.nd rfl (Or.inl rfl) (ve_call G__law_draw (hr.mono (by decide)) (by rfl) T.g__law_draw T.k__law_draw b__law_draw tk (va_cons (vv 0) (va_cons (vv 1) (va_cons (ve_op op_addA s_add (ve_lst (va_cons (vv 3) va_nil)) (ve_op op_rep s_rep (ve_lst (va_cons ve_int (va_cons ve_int (va_cons ve_int (va_cons ve_int (va_cons ve_int (va_cons ve_int (va_cons ve_int va_nil)))))))) (vv 3))) va_nil)))))
    (vss_cons (vs_for hp rfl (vi_range1 (by rfl) T.z_range (va_cons (ve_ix ix_seq s_ix (vv 5) ve_int (fun _ _ => rfl)) va_nil)) (vg_name sc__law_random.nd rfl (Or.inl rfl)) (vss_cons (vs_set (i := 7) sc__law_random.nd rfl (Or.inl rfl) (ve_sl (vv 5) (vo_some (ve_op op_addA s_add ve_int (ve_op op_mul s_mul ve_int (vv 6)))) (vo_some (ve_op op_addA s_add ve_int (ve_op op_mul s_mul ve_int (vv 6))))))
    (vss_cons (vs_set (i := 8) sc__law_random.nd rfl (Or.inl rfl) (ve_lst va_nil))
    (vss_cons (vs_for hp rfl (vi_list (ve_lst (va_cons (ve_tup (va_cons (ve_ix ix_seq s_ix (vv 7) ve_int (fun _ _ => rfl)) (va_cons (ve_ix ix_seq s_ix (vv 7) ve_int (fun _ _ => rfl)) va_nil))) (va_cons (ve_tup (va_cons (ve_ix ix_seq s_ix (vv 7) ve_int (fun _ _ => rfl)) (va_cons (ve_ix ix_seq s_ix (vv 7) ve_int (fun _ _ => rfl)) va_nil))) va_nil)))) (vg_tup rfl (vgs_cons sc__law_random.nd rfl (Or.inl rfl) (vgs_cons sc__law_random.nd rfl (Or.inl rfl) vgs_nil))) (vss_cons (vs_set (i := 11) sc__law_random.nd rfl (Or.inl rfl) (ve_op op_addA s_add ve_str (ve_callTy call_str_int c_str (by rfl) T.z_str (by decide +kernel) (va_cons (ve_op op_mod s_mod (ve_op op_addA s_add (ve_op op_addA s_add (ve_ix ix_seq s_ix (vv 7) ve_int (fun _ _ => rfl)) ve_int) (ve_op op_mod s_mod (vv 10) ve_int)) ve_int) va_nil))))
    (vss_cons (vs_if (vt_cmp (op_eqD hr.units) s_eq (vv 9) ve_int (nomark _)) (vss_one (vs_set (i := 11) sc__law_random.nd rfl (Or.inl rfl) (ve_op op_addA s_add ve_str (ve_callTy call_str_int c_str (by rfl) T.z_str (by decide +kernel) (va_cons (ve_op op_mod s_mod (vv 10) (ve_ix ix_seq s_ix (vv 2) ve_int (fun _ _ => rfl))) va_nil))))) vss_nil)
    (vss_cons (vs_if (vt_cmp (op_eqD hr.units) s_eq (vv 9) ve_int (nomark _)) (vss_one (vs_set (i := 11) sc__law_random.nd rfl (Or.inl rfl) (ve_callTy call_str_int c_str (by rfl) T.z_str (by decide +kernel) (va_cons (ve_op op_mod s_mod (vv 10) (ve_ix ix_seq s_ix (vv 2) ve_int (fun _ _ => rfl))) va_nil)))) vss_nil)
    (vss_one (vs_fz 11 (vs_app 8 (vv 11))))))))
    (vss_one (vs_app 4 (ve_tup (va_cons (ve_ix ix_seq s_ix (vv 7) ve_int (fun _ _ => rfl)) (va_cons (ve_ix ix_seq s_ix ve_str (ve_ix ix_seq s_ix (vv 7) ve_int (fun _ _ => rfl)) (fun _ _ => rfl)) (va_cons (ve_ix ix_seq s_ix ve_str (ve_ix ix_seq s_ix (vv 7) ve_int (fun _ _ => rfl)) (fun _ _ => rfl)) (va_cons (ve_ix ix_seq s_ix (vv 8) ve_int (fun _ _ => rfl)) (va_cons (ve_ix ix_seq s_ix (vv 8) ve_int (fun _ _ => rfl)) va_nil))))))))))))
    (vss_one (vs_retv 4))))))
abbrev s__law_inputs : Stmt := topS 19
abbrev n__law_inputs : List Str := ["_law_script", "_law_k", "_law_program_here", "_law_digits"]
theorem sc__law_inputs : FnScope n__law_inputs ["_law_script", "_law_k", "_law_program_here"] (defScope s__law_inputs) := ⟨rfl, rfl, rfl, by decide +kernel, rfl, by decide +kernel, by decide +kernel⟩
theorem ok__law_inputs (T : Txt K mg a_result_of a_source_value a_performed a_traced a_Machine___init__ a__law_cell a__law_draw a__law_operand a__law_program a__law_random a__law_inputs a_Machine_registers a_Machine_forward a_Machine_backward a_Machine_position a__law_result a__law_value a__law_after a_law aC_Machine aP_Machine_position aP_Machine_registers) {fd__law_draw : FuncData} (G__law_draw : FnOk P w K mg base (L2.CX P w) 2 a__law_draw fd__law_draw ["_law_script", "_law_k", "_law_sizes"] (spV K ca 3 F__law_draw)) (b__law_draw : Binds K fd__law_draw ["_law_script", "_law_k", "_law_sizes"] []) {fd : FuncData} (F : Fun K "_law_inputs" "_law_inputs" s__law_inputs a__law_inputs fd) : FnOk P w K mg base (L2.CX P w) 3 a__law_inputs fd ["_law_script", "_law_k", "_law_program_here"] (spV K ca 3 F__law_inputs) :=
  fn_ok (k := 2) (N := n__law_inputs) (body := B__law_inputs) F sc__law_inputs (fun cdv A outer s H E hr tk hp =>
    (vss_cons (vs_set (i := 3) sc__law_inputs.nd rfl (Or.inl rfl) (ve_call G__law_draw (hr.mono (by decide)) (by rfl) T.g__law_draw T.k__law_draw b__law_draw tk (va_cons (vv 0) (va_cons (vv 1) (va_cons (ve_op op_rep s_rep (ve_lst (va_cons (ve_ix ix_seq s_ix (vv 2) ve_int (fun _ _ => rfl)) va_nil)) (ve_ix ix_seq s_ix (vv 2) ve_int (fun _ _ => rfl))) va_nil)))))
    (vss_one (vs_ret (ve_callTy call_list_of c_list (by rfl) T.z_list (by decide +kernel) (va_cons (vv 3) va_nil))))))
abbrev s_Machine_registers : Stmt := (clsBody (topS 11)).getD 2 (.Pass ⟨0, 0, 0, 0⟩)
abbrev n_Machine_registers : List Str := ["self"]
theorem sc_Machine_registers : FnScope n_Machine_registers ["self"] (defScope s_Machine_registers) := ⟨rfl, rfl, rfl, by decide +kernel, rfl, by decide +kernel, by decide +kernel⟩
theorem ok_Machine_registers (T : Txt K mg a_result_of a_source_value a_performed a_traced a_Machine___init__ a__law_cell a__law_draw a__law_operand a__law_program a__law_random a__law_inputs a_Machine_registers a_Machine_forward a_Machine_backward a_Machine_position a__law_result a__law_value a__law_after a_law aC_Machine aP_Machine_position aP_Machine_registers) {fd : FuncData} (F : Fun K "registers" "Machine.registers" s_Machine_registers a_Machine_registers fd) : FnOk P w K mg base (L2.CX P w) 1 a_Machine_registers fd ["self"] (spV K ca 1 F_Machine_registers) :=
  fn_ok (k := 0) (N := n_Machine_registers) (body := B_Machine_registers) F sc_Machine_registers (fun cdv A outer s H E hr tk hp =>
    (vss_one (vs_ret (ve_callTy call_list_of c_list (by rfl) T.z_list (by decide +kernel) (va_cons (ve_ix ix_seq s_ix (ve_fld 0 T.ct_Machine T.nf_Machine__states) (ve_fld 0 T.ct_Machine T.nf_Machine__position) (fun _ _ => rfl)) va_nil)))))
abbrev s_Machine_forward : Stmt := (clsBody (topS 11)).getD 4 (.Pass ⟨0, 0, 0, 0⟩)
abbrev n_Machine_forward : List Str := ["self"]
theorem sc_Machine_forward : FnScope n_Machine_forward ["self"] (defScope s_Machine_forward) := ⟨rfl, rfl, rfl, by decide +kernel, rfl, by decide +kernel, by decide +kernel⟩
theorem ok_Machine_forward (T : Txt K mg a_result_of a_source_value a_performed a_traced a_Machine___init__ a__law_cell a__law_draw a__law_operand a__law_program a__law_random a__law_inputs a_Machine_registers a_Machine_forward a_Machine_backward a_Machine_position a__law_result a__law_value a__law_after a_law aC_Machine aP_Machine_position aP_Machine_registers) {fd : FuncData} (F : Fun K "forward" "Machine.forward" s_Machine_forward a_Machine_forward fd) : FnOk P w K mg base (L2.CX P w) 1 a_Machine_forward fd ["self"] (spM K ca 1 F_Machine_forward) :=
  fn_okM (k := 0) (N := n_Machine_forward) (body := B_Machine_forward) F sc_Machine_forward (fun cdv A outer s H E hr tk hp =>
    (vss_cons (vs_if (vt_cmp (op_eqD hr.units) s_eq (ve_fld 0 T.ct_Machine T.nf_Machine__position) (ve_callB call_lenA c_len (by rfl) T.z_len (by decide +kernel) (va_cons (ve_fld 0 T.ct_Machine T.nf_Machine__code) va_nil)) (nomark _)) (vss_one (vs_retS ve_non)) vss_nil)
    (vss_cons (vs_fldS false 0 T.ct_Machine T.nf_Machine__position (ve_op op_addA s_add (ve_fld 0 T.ct_Machine T.nf_Machine__position) ve_int))
    (vss_one (vs_retS (ve_ix ix_seq s_ix (ve_fld 0 T.ct_Machine T.nf_Machine__code) (ve_op op_sub s_sub (ve_fld 0 T.ct_Machine T.nf_Machine__position) ve_int) (fun _ _ => rfl)))))))
abbrev s_Machine_backward : Stmt := (clsBody (topS 11)).getD 5 (.Pass ⟨0, 0, 0, 0⟩)
abbrev n_Machine_backward : List Str := ["self"]
theorem sc_Machine_backward : FnScope n_Machine_backward ["self"] (defScope s_Machine_backward) := ⟨rfl, rfl, rfl, by decide +kernel, rfl, by decide +kernel, by decide +kernel⟩
theorem ok_Machine_backward (T : Txt K mg a_result_of a_source_value a_performed a_traced a_Machine___init__ a__law_cell a__law_draw a__law_operand a__law_program a__law_random a__law_inputs a_Machine_registers a_Machine_forward a_Machine_backward a_Machine_position a__law_result a__law_value a__law_after a_law aC_Machine aP_Machine_position aP_Machine_registers) {fd : FuncData} (F : Fun K "backward" "Machine.backward" s_Machine_backward a_Machine_backward fd) : FnOk P w K mg base (L2.CX P w) 1 a_Machine_backward fd ["self"] (spM K ca 1 F_Machine_backward) :=
  fn_okM (k := 0) (N := n_Machine_backward) (body := B_Machine_backward) F sc_Machine_backward (fun cdv A outer s H E hr tk hp =>
    (vss_cons (vs_if (vt_cmp (op_eqD hr.units) s_eq (ve_fld 0 T.ct_Machine T.nf_Machine__position) ve_int (nomark _)) (vss_one (vs_retS ve_non)) vss_nil)
    (vss_cons (vs_fldS false 0 T.ct_Machine T.nf_Machine__position (ve_op op_sub s_sub (ve_fld 0 T.ct_Machine T.nf_Machine__position) ve_int))
    (vss_one (vs_retS (ve_ix ix_seq s_ix (ve_fld 0 T.ct_Machine T.nf_Machine__code) (ve_fld 0 T.ct_Machine T.nf_Machine__position) (fun _ _ => rfl)))))))
abbrev s_Machine_position : Stmt := (clsBody (topS 11)).getD 1 (.Pass ⟨0, 0, 0, 0⟩)
abbrev n_Machine_position : List Str := ["self"]
theorem sc_Machine_position : FnScope n_Machine_position ["self"] (defScope s_Machine_position) := ⟨rfl, rfl, rfl, by decide +kernel, rfl, by decide +kernel, by decide +kernel⟩
theorem ok_Machine_position (T : Txt K mg a_result_of a_source_value a_performed a_traced a_Machine___init__ a__law_cell a__law_draw a__law_operand a__law_program a__law_random a__law_inputs a_Machine_registers a_Machine_forward a_Machine_backward a_Machine_position a__law_result a__law_value a__law_after a_law aC_Machine aP_Machine_position aP_Machine_registers) {fd : FuncData} (F : Fun K "position" "Machine.position" s_Machine_position a_Machine_position fd) : FnOk P w K mg base (L2.CX P w) 1 a_Machine_position fd ["self"] (spV K ca 1 F_Machine_position) :=
  fn_ok (k := 0) (N := n_Machine_position) (body := B_Machine_position) F sc_Machine_position (fun cdv A outer s H E hr tk hp =>
    (vss_one (vs_ret (ve_fld 0 T.ct_Machine T.nf_Machine__position))))
abbrev s__law_result : Stmt := topS 17
abbrev n__law_result : List Str := ["_law_operation", "_law_left", "_law_right", "_law_modulus"]
theorem sc__law_result : FnScope n__law_result ["_law_operation", "_law_left", "_law_right", "_law_modulus"] (defScope s__law_result) := ⟨rfl, rfl, rfl, by decide +kernel, rfl, by decide +kernel, by decide +kernel⟩
theorem ok__law_result (T : Txt K mg a_result_of a_source_value a_performed a_traced a_Machine___init__ a__law_cell a__law_draw a__law_operand a__law_program a__law_random a__law_inputs a_Machine_registers a_Machine_forward a_Machine_backward a_Machine_position a__law_result a__law_value a__law_after a_law aC_Machine aP_Machine_position aP_Machine_registers) {fd : FuncData} (F : Fun K "_law_result" "_law_result" s__law_result a__law_result fd) : FnOk P w K mg base (L2.CX P w) 1 a__law_result fd ["_law_operation", "_law_left", "_law_right", "_law_modulus"] (spV K ca 4 F__law_result) :=
  fn_ok (k := 0) (N := n__law_result) (body := B__law_result) F sc__law_result (fun cdv A outer s H E hr tk hp =>
    (vss_cons (vs_if (vt_cmp (op_eqD hr.units) s_eq (vv 0) ve_str (nomark _)) (vss_one (vs_ret (ve_op op_mod s_mod (ve_op op_addA s_add (vv 1) (vv 2)) (vv 3)))) vss_nil)
    (vss_cons (vs_if (vt_cmp (op_eqD hr.units) s_eq (vv 0) ve_str (nomark _)) (vss_one (vs_ret (ve_op op_mod s_mod (ve_op op_sub s_sub (vv 1) (vv 2)) (vv 3)))) vss_nil)
    (vss_one (vs_ret (ve_op op_mod s_mod (ve_op op_mul s_mul (vv 1) (vv 2)) (vv 3)))))))
abbrev s__law_value : Stmt := topS 18
abbrev n__law_value : List Str := ["_law_word", "_law_inputs_here", "_law_others"]
theorem sc__law_value : FnScope n__law_value ["_law_word", "_law_inputs_here", "_law_others"] (defScope s__law_value) := ⟨rfl, rfl, rfl, by decide +kernel, rfl, by decide +kernel, by decide +kernel⟩
theorem ok__law_value (T : Txt K mg a_result_of a_source_value a_performed a_traced a_Machine___init__ a__law_cell a__law_draw a__law_operand a__law_program a__law_random a__law_inputs a_Machine_registers a_Machine_forward a_Machine_backward a_Machine_position a__law_result a__law_value a__law_after a_law aC_Machine aP_Machine_position aP_Machine_registers) {fd : FuncData} (F : Fun K "_law_value" "_law_value" s__law_value a__law_value fd) : FnOk P w K mg base (L2.CX P w) 1 a__law_value fd ["_law_word", "_law_inputs_here", "_law_others"] (spV K ca 3 F__law_value) :=
  fn_ok (k := 0) (N := n__law_value) (body := B__law_value) F sc__law_value (fun cdv A outer s H E hr tk hp =>
    (vss_cons (vs_if (vt_cmp (op_eqD hr.units) s_eq (ve_ix ix_seq s_ix (vv 0) ve_int (fun _ _ => rfl)) ve_str (nomark _)) (vss_one (vs_ret (ve_ix ix_seq s_ix (vv 1) (ve_callTy call_int_str c_int (by rfl) T.z_int (by decide +kernel) (va_cons (ve_sl (vv 0) (vo_some ve_int) vo_none) va_nil)) (fun _ _ => rfl)))) vss_nil)
    (vss_cons (vs_if (vw (vw_or (vt_cmp (op_eqD hr.units) s_eq (ve_ix ix_seq s_ix (vv 0) ve_int (fun _ _ => rfl)) ve_str (nomark _)) (vw_or1 (vt_cmp (op_eqD hr.units) s_eq (ve_ix ix_seq s_ix (vv 0) ve_int (fun _ _ => rfl)) ve_str (nomark _))))) (vss_one (vs_ret (ve_ix ix_seq s_ix (vv 2) (ve_callTy call_int_str c_int (by rfl) T.z_int (by decide +kernel) (va_cons (ve_sl (vv 0) (vo_some ve_int) vo_none) va_nil)) (fun _ _ => rfl)))) vss_nil)
    (vss_one (vs_ret (ve_callTy call_int_str c_int (by rfl) T.z_int (by decide +kernel) (va_cons (vv 0) va_nil)))))))
abbrev s__law_after : Stmt := topS 20
abbrev n__law_after : List Str := ["_law_program_here", "_law_code", "_law_inputs_here", "_law_registers", "_law_contents", "_law_reg", "_law_sign", "_law_operation", "_law_left", "_law_right", "_law_value_here"]
theorem sc__law_after : FnScope n__law_after ["_law_program_here", "_law_code", "_law_inputs_here", "_law_registers"] (defScope s__law_after) := ⟨rfl, rfl, rfl, by decide +kernel, rfl, by decide +kernel, by decide +kernel⟩
theorem ok__law_after (T : Txt K mg a_result_of a_source_value a_performed a_traced a_Machine___init__ a__law_cell a__law_draw a__law_operand a__law_program a__law_random a__law_inputs a_Machine_registers a_Machine_forward a_Machine_backward a_Machine_position a__law_result a__law_value a__law_after a_law aC_Machine aP_Machine_position aP_Machine_registers) {fd__law_result : FuncData} (G__law_result : FnOk P w K mg base (L2.CX P w) 1 a__law_result fd__law_result ["_law_operation", "_law_left", "_law_right", "_law_modulus"] (spV K ca 4 F__law_result)) (b__law_result : Binds K fd__law_result ["_law_operation", "_law_left", "_law_right", "_law_modulus"] []) {fd__law_value : FuncData} (G__law_value : FnOk P w K mg base (L2.CX P w) 1 a__law_value fd__law_value ["_law_word", "_law_inputs_here", "_law_others"] (spV K ca 3 F__law_value)) (b__law_value : Binds K fd__law_value ["_law_word", "_law_inputs_here", "_law_others"] []) {fd : FuncData} (F : Fun K "_law_after" "_law_after" s__law_after a__law_after fd) : FnOk P w K mg base (L2.CX P w) 2 a__law_after fd ["_law_program_here", "_law_code", "_law_inputs_here", "_law_registers"] (spV K ca 4 F__law_after) :=
  fn_ok (k := 1) (N := n__law_after) (body := B__law_after) F sc__law_after (fun cdv A outer s H E hr tk hp =>
    (vss_cons (vs_set (i := 4) sc__law_after.nd rfl (Or.inl rfl) (ve_callTy call_list_of c_list (by rfl) T.z_list (by decide +kernel) (va_cons (vv 3) va_nil)))
    (vss_cons (vs_for hp rfl (vi_any (vv 1)) (vg_tup rfl (vgs_cons sc__law_after.nd rfl (Or.inl rfl) (vgs_cons sc__law_after.nd rfl (Or.inl rfl) (vgs_cons sc__law_after.nd rfl (Or.inl rfl) (vgs_cons sc__law_after.nd rfl (Or.inl rfl) (vgs_cons sc__law_after.nd rfl (Or.inl rfl) vgs_nil)))))) (vss_cons (vs_set (i := 10) sc__law_after.nd rfl (Or.inl rfl) (ve_call G__law_result (hr.mono (by decide)) (by rfl) T.g__law_result T.k__law_result b__law_result tk (va_cons (vv 7) (va_cons (ve_call G__law_value (hr.mono (by decide)) (by rfl) T.g__law_value T.k__law_value b__law_value tk (va_cons (vv 8) (va_cons (vv 2) (va_cons (vv 4) va_nil)))) (va_cons (ve_call G__law_value (hr.mono (by decide)) (by rfl) T.g__law_value T.k__law_value b__law_value tk (va_cons (vv 9) (va_cons (vv 2) (va_cons (vv 4) va_nil)))) (va_cons (ve_ix ix_seq s_ix (vv 0) ve_int (fun _ _ => rfl)) va_nil))))))
    (vss_cons (vs_if (vt_cmp (op_eqD hr.units) s_eq (vv 6) ve_str (nomark _)) (vss_one (vs_set (i := 10) sc__law_after.nd rfl (Or.inl rfl) (ve_un un_neg s_neg (vv 10)))) vss_nil)
    (vss_one (vs_store 4 (ve_op op_mod s_mod (ve_op op_addA s_add (ve_ix ix_seq s_ix (vv 4) (vv 5) (fun _ _ => rfl)) (vv 10)) (ve_ix ix_seq s_ix (vv 0) ve_int (fun _ _ => rfl))) (vv 5))))))
    (vss_one (vs_retv 4)))))
abbrev s_law : Stmt := topS 22
abbrev n_law : List Str := ["_law_script", "_law_program_here", "_law_code", "_law_inputs_here", "_law_given", "_law_fed", "_law_machine", "_law_at", "_law_k", "_law_due", "_law_told"]
theorem sc_law : FnScope n_law ["_law_script"] (defScope s_law) := ⟨rfl, rfl, rfl, by decide +kernel, rfl, by decide +kernel, by decide +kernel⟩
theorem ok_law (T : Txt K mg a_result_of a_source_value a_performed a_traced a_Machine___init__ a__law_cell a__law_draw a__law_operand a__law_program a__law_random a__law_inputs a_Machine_registers a_Machine_forward a_Machine_backward a_Machine_position a__law_result a__law_value a__law_after a_law aC_Machine aP_Machine_position aP_Machine_registers) {fd__law_program : FuncData} (G__law_program : FnOk P w K mg base (L2.CX P w) 3 a__law_program fd__law_program ["_law_script", "_law_k", "_law_most"] (spV K ca 3 F__law_program)) (b__law_program : Binds K fd__law_program ["_law_script", "_law_k", "_law_most"] []) {fd__law_random : FuncData} (G__law_random : FnOk P w K mg base (L2.CX P w) 3 a__law_random fd__law_random ["_law_script", "_law_k", "_law_program_here", "_law_most"] (spV K ca 4 F__law_random)) (b__law_random : Binds K fd__law_random ["_law_script", "_law_k", "_law_program_here", "_law_most"] []) {fd__law_inputs : FuncData} (G__law_inputs : FnOk P w K mg base (L2.CX P w) 3 a__law_inputs fd__law_inputs ["_law_script", "_law_k", "_law_program_here"] (spV K ca 3 F__law_inputs)) (b__law_inputs : Binds K fd__law_inputs ["_law_script", "_law_k", "_law_program_here"] []) {fd_Machine___init__ : FuncData} (G_Machine___init__ : FnOk P w K mg base (L2.CX P w) 4 a_Machine___init__ fd_Machine___init__ ["self", "program", "code", "inputs"] (spM K ca 4 F_Machine___init__)) (b_Machine___init__ : Binds K fd_Machine___init__ ["self", "program", "code", "inputs"] []) {fd__law_draw : FuncData} (G__law_draw : FnOk P w K mg base (L2.CX P w) 2 a__law_draw fd__law_draw ["_law_script", "_law_k", "_law_sizes"] (spV K ca 3 F__law_draw)) (b__law_draw : Binds K fd__law_draw ["_law_script", "_law_k", "_law_sizes"] []) {fd_Machine_forward : FuncData} (G_Machine_forward : FnOk P w K mg base (L2.CX P w) 1 a_Machine_forward fd_Machine_forward ["self"] (spM K ca 1 F_Machine_forward)) (b_Machine_forward : Binds K fd_Machine_forward ["self"] []) {fd_Machine_backward : FuncData} (G_Machine_backward : FnOk P w K mg base (L2.CX P w) 1 a_Machine_backward fd_Machine_backward ["self"] (spM K ca 1 F_Machine_backward)) (b_Machine_backward : Binds K fd_Machine_backward ["self"] []) {fd_Machine_position : FuncData} (G_Machine_position : FnOk P w K mg base (L2.CX P w) 1 a_Machine_position fd_Machine_position ["self"] (spV K ca 1 F_Machine_position)) (b_Machine_position : Binds K fd_Machine_position ["self"] []) {fd_Machine_registers : FuncData} (G_Machine_registers : FnOk P w K mg base (L2.CX P w) 1 a_Machine_registers fd_Machine_registers ["self"] (spV K ca 1 F_Machine_registers)) (b_Machine_registers : Binds K fd_Machine_registers ["self"] []) {fd__law_after : FuncData} (G__law_after : FnOk P w K mg base (L2.CX P w) 2 a__law_after fd__law_after ["_law_program_here", "_law_code", "_law_inputs_here", "_law_registers"] (spV K ca 4 F__law_after)) (b__law_after : Binds K fd__law_after ["_law_program_here", "_law_code", "_law_inputs_here", "_law_registers"] []) {fd : FuncData} (F : Fun K "law" "law" s_law a_law fd) : FnOk P w K mg base (L2.CX P w) 6 a_law fd ["_law_script"] (spV K ca 1 F_law) :=
  fn_ok (k := 5) (N := n_law) (body := B_law) F sc_law (fun cdv A outer s H E hr tk hp =>
    (vss_cons (vs_set (i := 1) sc_law.nd rfl (Or.inl rfl) (ve_call G__law_program (hr.mono (by decide)) (by rfl) T.g__law_program T.k__law_program b__law_program tk (va_cons (vv 0) (va_cons ve_int (va_cons ve_int va_nil)))))
    (vss_cons (vs_fz 1 (vs_set (i := 2) sc_law.nd rfl (Or.inl rfl) (ve_call G__law_random (hr.mono (by decide)) (by rfl) T.g__law_random T.k__law_random b__law_random tk (va_cons (vv 0) (va_cons ve_int (va_cons (vv 1) (va_cons ve_int va_nil)))))))
    (vss_cons (vs_fz 1 (vs_set (i := 3) sc_law.nd rfl (Or.inl rfl) (ve_call G__law_inputs (hr.mono (by decide)) (by rfl) T.g__law_inputs T.k__law_inputs b__law_inputs tk (va_cons (vv 0) (va_cons ve_int (va_cons (vv 1) va_nil))))))
    (vss_cons (vs_set (i := 4) sc_law.nd rfl (Or.inl rfl) (ve_callTy call_list_of c_list (by rfl) T.z_list (by decide +kernel) (va_cons (vv 2) va_nil)))
    (vss_cons (vs_set (i := 5) sc_law.nd rfl (Or.inl rfl) (ve_callTy call_list_of c_list (by rfl) T.z_list (by decide +kernel) (va_cons (vv 3) va_nil)))
    (vss_cons (vs_fz 1 (vs_set (i := 6) sc_law.nd rfl (Or.inl rfl) (ve_make T.mk_Machine T.ct_Machine.nm G_Machine___init__ (hr.mono (by decide)) (by rfl) T.gc_Machine b_Machine___init__ tk (va_cons (vv 1) (va_cons (vv 4) (va_cons (vv 5) va_nil))))))
    (vss_cons (vs_app 4 (ve_tup (va_cons ve_int (va_cons ve_str (va_cons ve_str (va_cons ve_str (va_cons ve_str va_nil)))))))
    (vss_cons (vs_store 5 (ve_op op_mod s_mod (ve_op op_addA s_add (ve_ix ix_seq s_ix (vv 5) ve_int (fun _ _ => rfl)) ve_int) (ve_ix ix_seq s_ix (vv 1) ve_int (fun _ _ => rfl))) ve_int)
    (vss_cons (vs_set (i := 7) sc_law.nd rfl (Or.inl rfl) ve_int)
    (vss_cons (vs_for hp rfl (vi_range2 (by rfl) T.z_range (va_cons ve_int (va_cons (ve_callB (call_min2 rfl) c_min2 (by rfl) T.z_min (by decide +kernel) (va_cons ve_int (va_cons (ve_callB (call_max2 rfl) c_max2 (by rfl) T.z_max (by decide +kernel) (va_cons ve_int (va_cons (ve_callB call_lenA c_len (by rfl) T.z_len (by decide +kernel) (va_cons (vv 0) va_nil)) va_nil))) va_nil))) va_nil))) (vg_name sc_law.nd rfl (Or.inl rfl)) (vss_cons (vs_set (i := 9) sc_law.nd rfl (Or.inl rfl) ve_non)
    (vss_cons (vs_if (vt_cmp op_lt s_lt (ve_ix ix_seq s_ix (ve_call G__law_draw (hr.mono (by decide)) (by rfl) T.g__law_draw T.k__law_draw b__law_draw tk (va_cons (vv 0) (va_cons (vv 8) (va_cons (ve_lst (va_cons ve_int va_nil)) va_nil)))) ve_int (fun _ _ => rfl)) ve_int (nomark _)) (vss_cons (vs_if (vt_cmp op_lt s_lt (vv 7) (ve_callB call_lenA c_len (by rfl) T.z_len (by decide +kernel) (va_cons (vv 2) va_nil)) (nomark _)) (vss_cons (vs_set (i := 9) sc_law.nd rfl (Or.inl rfl) (ve_ix ix_seq s_ix (vv 2) (vv 7) (fun _ _ => rfl)))
    (vss_one (vs_set (i := 7) sc_law.nd rfl (Or.inl rfl) (ve_op op_addA s_add (vv 7) ve_int)))) vss_nil)
    (vss_one (vs_setM (i := 10) sc_law.nd rfl (Or.inl rfl) (vm_meth0 6 T.ct_Machine T.mt_Machine_forward G_Machine_forward (hr.mono (by decide)) b_Machine_forward tk)))) (vss_cons (vs_if (vt_cmp op_gt s_gt (vv 7) ve_int (nomark _)) (vss_cons (vs_set (i := 7) sc_law.nd rfl (Or.inl rfl) (ve_op op_sub s_sub (vv 7) ve_int))
    (vss_one (vs_set (i := 9) sc_law.nd rfl (Or.inl rfl) (ve_ix ix_seq s_ix (vv 2) (vv 7) (fun _ _ => rfl))))) vss_nil)
    (vss_one (vs_setM (i := 10) sc_law.nd rfl (Or.inl rfl) (vm_meth0 6 T.ct_Machine T.mt_Machine_backward G_Machine_backward (hr.mono (by decide)) b_Machine_backward tk)))))
    (vss_cons (vs_if (vw (vw_or (vt_cmp (op_neD hr.units) s_ne (vv 10) (vv 9) (nomark _)) (vw_or1 (vt_cmp (op_neD hr.units) s_ne (ve_prop 6 T.ct_Machine T.pp_Machine_position G_Machine_position (hr.mono (by decide)) b_Machine_position) (vv 7) (nomark _))))) (vss_one (vs_ret ve_bl)) vss_nil)
    (vss_cons (vs_fz 3 (vs_fz 1 (vs_if (vt_cmp (op_neD hr.units) s_ne (ve_prop 6 T.ct_Machine T.pp_Machine_registers G_Machine_registers (hr.mono (by decide)) b_Machine_registers) (ve_call G__law_after (hr.mono (by decide)) (by rfl) T.g__law_after T.k__law_after b__law_after tk (va_cons (vv 1) (va_cons (ve_sl (vv 2) vo_none (vo_some (vv 7))) (va_cons (vv 3) (va_cons (ve_op op_rep s_rep (ve_lst (va_cons ve_int va_nil)) ve_int) va_nil))))) (nomark _)) (vss_one (vs_ret ve_bl)) vss_nil)))
    (vss_one (vs_appT (ve_prop 6 T.ct_Machine T.pp_Machine_registers G_Machine_registers (hr.mono (by decide)) b_Machine_registers) ve_int)))))))
    (vss_one (vs_ret (ve_cmp (op_eqD hr.units) s_eq (ve_callB call_lenA c_len (by rfl) T.z_len (by decide +kernel) (va_cons (ve_prop 6 T.ct_Machine T.pp_Machine_registers G_Machine_registers (hr.mono (by decide)) b_Machine_registers) va_nil)) ve_int (nomark _)))))))))))))))
end
theorem all_mk {l : PySem.W.OpenLaw} {w : World} {K : PySem.W.Frag} {h : Heap} {mg : Str → Option Value} {fa a_result_of a_source_value a_performed a_traced a_Machine___init__ a__law_cell a__law_draw a__law_operand a__law_program a__law_random a__law_inputs a_Machine_registers a_Machine_forward a_Machine_backward a_Machine_position a__law_result a__law_value a__law_after a_law aC_Machine aP_Machine_position aP_Machine_registers : Addr} (X : K.In h) (G : h.Ns mainGlobals mg) (hfa : mg "law" = some (.ref fa))
    {od_result_of an_result_of od_source_value an_source_value od_performed an_performed od_traced an_traced od_Machine___init__ an_Machine___init__ od__law_cell an__law_cell od__law_draw an__law_draw od__law_operand an__law_operand od__law_program an__law_program od__law_random an__law_random od__law_inputs an__law_inputs od_Machine_registers an_Machine_registers od_Machine_forward an_Machine_forward od_Machine_backward an_Machine_backward od_Machine_position an_Machine_position od__law_result an__law_result od__law_value an__law_value od__law_after an__law_after od_law an_law : Option Addr} {sl_result_of sl_source_value sl_performed sl_traced sl_Machine___init__ sl__law_cell sl__law_draw sl__law_operand sl__law_program sl__law_random sl__law_inputs sl_Machine_registers sl_Machine_forward sl_Machine_backward sl_Machine_position sl__law_result sl__law_value sl__law_after sl_law : Array (Option Value)} {oc_result_of kV_result_of dc_result_of pm_result_of cd_result_of ct_result_of oc_source_value kV_source_value dc_source_value pm_source_value cd_source_value ct_source_value oc_performed kV_performed dc_performed pm_performed cd_performed ct_performed oc_traced kV_traced dc_traced pm_traced cd_traced ct_traced oc_Machine___init__ kV_Machine___init__ dc_Machine___init__ pm_Machine___init__ cd_Machine___init__ ct_Machine___init__ oc__law_cell kV__law_cell dc__law_cell pm__law_cell cd__law_cell ct__law_cell oc__law_draw kV__law_draw dc__law_draw pm__law_draw cd__law_draw ct__law_draw oc__law_operand kV__law_operand dc__law_operand pm__law_operand cd__law_operand ct__law_operand oc__law_program kV__law_program dc__law_program pm__law_program cd__law_program ct__law_program oc__law_random kV__law_random dc__law_random pm__law_random cd__law_random ct__law_random oc__law_inputs kV__law_inputs dc__law_inputs pm__law_inputs cd__law_inputs ct__law_inputs oc_Machine_registers kV_Machine_registers dc_Machine_registers pm_Machine_registers cd_Machine_registers ct_Machine_registers oc_Machine_forward kV_Machine_forward dc_Machine_forward pm_Machine_forward cd_Machine_forward ct_Machine_forward oc_Machine_backward kV_Machine_backward dc_Machine_backward pm_Machine_backward cd_Machine_backward ct_Machine_backward oc_Machine_position kV_Machine_position dc_Machine_position pm_Machine_position cd_Machine_position ct_Machine_position oc__law_result kV__law_result dc__law_result pm__law_result cd__law_result ct__law_result oc__law_value kV__law_value dc__law_value pm__law_value cd__law_value ct__law_value oc__law_after kV__law_after dc__law_after pm__law_after cd__law_after ct__law_after oc_law kV_law dc_law pm_law cd_law ct_law : Value}
    (pc_Machine : PySem.W.nsIn K mainGlobals "Machine" = some (some (.ref aC_Machine))) (pg_Machine : PySem.W.plainGet K aC_Machine Str.empty = true) (hd2_Machine : PySem.W.hasDictIn K aC_Machine = true) (po_Machine : PySem.W.plainOver K aC_Machine = true) (sa2_Machine : PySem.W.findIn K (.ref aC_Machine) "__setattr__" = some (some (.builtin "object.__setattr__")))
    (p_result_of : PySem.W.nsIn K mainGlobals "result_of" = some (some (.ref a_result_of))) (l_result_of : K.lookup a_result_of = some ⟨oc_result_of, od_result_of, .func (PySem.W.fnOf "result_of" "result_of" (defArgs s_result_of) (defBody s_result_of) (defScope s_result_of) .none kV_result_of dc_result_of pm_result_of an_result_of cd_result_of ct_result_of), sl_result_of⟩) (c_result_of : PySem.W.codeIn K cd_result_of "result_of" = true) (k_result_of : PySem.W.keepIn K (.ref a_result_of) = true)
    (p_source_value : PySem.W.nsIn K mainGlobals "source_value" = some (some (.ref a_source_value))) (l_source_value : K.lookup a_source_value = some ⟨oc_source_value, od_source_value, .func (PySem.W.fnOf "source_value" "source_value" (defArgs s_source_value) (defBody s_source_value) (defScope s_source_value) .none kV_source_value dc_source_value pm_source_value an_source_value cd_source_value ct_source_value), sl_source_value⟩) (c_source_value : PySem.W.codeIn K cd_source_value "source_value" = true) (k_source_value : PySem.W.keepIn K (.ref a_source_value) = true)
    (p_performed : PySem.W.nsIn K mainGlobals "performed" = some (some (.ref a_performed))) (l_performed : K.lookup a_performed = some ⟨oc_performed, od_performed, .func (PySem.W.fnOf "performed" "performed" (defArgs s_performed) (defBody s_performed) (defScope s_performed) .none kV_performed dc_performed pm_performed an_performed cd_performed ct_performed), sl_performed⟩) (c_performed : PySem.W.codeIn K cd_performed "performed" = true) (k_performed : PySem.W.keepIn K (.ref a_performed) = true)
    (p_traced : PySem.W.nsIn K mainGlobals "traced" = some (some (.ref a_traced))) (l_traced : K.lookup a_traced = some ⟨oc_traced, od_traced, .func (PySem.W.fnOf "traced" "traced" (defArgs s_traced) (defBody s_traced) (defScope s_traced) .none kV_traced dc_traced pm_traced an_traced cd_traced ct_traced), sl_traced⟩) (c_traced : PySem.W.codeIn K cd_traced "traced" = true) (k_traced : PySem.W.keepIn K (.ref a_traced) = true)
    (at_Machine___init__ : PySem.W.findIn K (.ref aC_Machine) "__init__" = some (some (.ref a_Machine___init__))) (is_Machine___init__ : PySem.W.isFn K (.ref a_Machine___init__) = true)
    (l_Machine___init__ : K.lookup a_Machine___init__ = some ⟨oc_Machine___init__, od_Machine___init__, .func (PySem.W.fnOf "__init__" "Machine.__init__" (defArgs s_Machine___init__) (defBody s_Machine___init__) (defScope s_Machine___init__) .none kV_Machine___init__ dc_Machine___init__ pm_Machine___init__ an_Machine___init__ cd_Machine___init__ ct_Machine___init__), sl_Machine___init__⟩) (c_Machine___init__ : PySem.W.codeIn K cd_Machine___init__ "Machine.__init__" = true) (k_Machine___init__ : PySem.W.keepIn K (.ref a_Machine___init__) = true)
    (p__law_cell : PySem.W.nsIn K mainGlobals "_law_cell" = some (some (.ref a__law_cell))) (l__law_cell : K.lookup a__law_cell = some ⟨oc__law_cell, od__law_cell, .func (PySem.W.fnOf "_law_cell" "_law_cell" (defArgs s__law_cell) (defBody s__law_cell) (defScope s__law_cell) .none kV__law_cell dc__law_cell pm__law_cell an__law_cell cd__law_cell ct__law_cell), sl__law_cell⟩) (c__law_cell : PySem.W.codeIn K cd__law_cell "_law_cell" = true) (k__law_cell : PySem.W.keepIn K (.ref a__law_cell) = true)
    (p__law_draw : PySem.W.nsIn K mainGlobals "_law_draw" = some (some (.ref a__law_draw))) (l__law_draw : K.lookup a__law_draw = some ⟨oc__law_draw, od__law_draw, .func (PySem.W.fnOf "_law_draw" "_law_draw" (defArgs s__law_draw) (defBody s__law_draw) (defScope s__law_draw) .none kV__law_draw dc__law_draw pm__law_draw an__law_draw cd__law_draw ct__law_draw), sl__law_draw⟩) (c__law_draw : PySem.W.codeIn K cd__law_draw "_law_draw" = true) (k__law_draw : PySem.W.keepIn K (.ref a__law_draw) = true)
    (p__law_operand : PySem.W.nsIn K mainGlobals "_law_operand" = some (some (.ref a__law_operand))) (l__law_operand : K.lookup a__law_operand = some ⟨oc__law_operand, od__law_operand, .func (PySem.W.fnOf "_law_operand" "_law_operand" (defArgs s__law_operand) (defBody s__law_operand) (defScope s__law_operand) .none kV__law_operand dc__law_operand pm__law_operand an__law_operand cd__law_operand ct__law_operand), sl__law_operand⟩) (c__law_operand : PySem.W.codeIn K cd__law_operand "_law_operand" = true) (k__law_operand : PySem.W.keepIn K (.ref a__law_operand) = true)
    (p__law_program : PySem.W.nsIn K mainGlobals "_law_program" = some (some (.ref a__law_program))) (l__law_program : K.lookup a__law_program = some ⟨oc__law_program, od__law_program, .func (PySem.W.fnOf "_law_program" "_law_program" (defArgs s__law_program) (defBody s__law_program) (defScope s__law_program) .none kV__law_program dc__law_program pm__law_program an__law_program cd__law_program ct__law_program), sl__law_program⟩) (c__law_program : PySem.W.codeIn K cd__law_program "_law_program" = true) (k__law_program : PySem.W.keepIn K (.ref a__law_program) = true)
    (p__law_random : PySem.W.nsIn K mainGlobals "_law_random" = some (some (.ref a__law_random))) (l__law_random : K.lookup a__law_random = some ⟨oc__law_random, od__law_random, .func (PySem.W.fnOf "_law_random" "_law_random" (defArgs s__law_random) (defBody s__law_random) (defScope s__law_random) .none kV__law_random dc__law_random pm__law_random an__law_random cd__law_random ct__law_random), sl__law_random⟩) (c__law_random : PySem.W.codeIn K cd__law_random "_law_random" = true) (k__law_random : PySem.W.keepIn K (.ref a__law_random) = true)
    (p__law_inputs : PySem.W.nsIn K mainGlobals "_law_inputs" = some (some (.ref a__law_inputs))) (l__law_inputs : K.lookup a__law_inputs = some ⟨oc__law_inputs, od__law_inputs, .func (PySem.W.fnOf "_law_inputs" "_law_inputs" (defArgs s__law_inputs) (defBody s__law_inputs) (defScope s__law_inputs) .none kV__law_inputs dc__law_inputs pm__law_inputs an__law_inputs cd__law_inputs ct__law_inputs), sl__law_inputs⟩) (c__law_inputs : PySem.W.codeIn K cd__law_inputs "_law_inputs" = true) (k__law_inputs : PySem.W.keepIn K (.ref a__law_inputs) = true)
    {rest_Machine_registers : List Value} (at_Machine_registers : PySem.W.findIn K (.ref aC_Machine) "registers" = some (some (.ref aP_Machine_registers))) (gt_Machine_registers : PySem.W.specialIn K (.ref aP_Machine_registers) "__get__" = some (some (.builtin "property.__get__"))) (tk_Machine_registers : PySem.W.takesIn K (.ref aP_Machine_registers) = some true) (rc_Machine_registers : PySem.W.recIn K aP_Machine_registers "property" = some (.ref a_Machine_registers :: rest_Machine_registers))
    (l_Machine_registers : K.lookup a_Machine_registers = some ⟨oc_Machine_registers, od_Machine_registers, .func (PySem.W.fnOf "registers" "Machine.registers" (defArgs s_Machine_registers) (defBody s_Machine_registers) (defScope s_Machine_registers) .none kV_Machine_registers dc_Machine_registers pm_Machine_registers an_Machine_registers cd_Machine_registers ct_Machine_registers), sl_Machine_registers⟩) (c_Machine_registers : PySem.W.codeIn K cd_Machine_registers "Machine.registers" = true) (k_Machine_registers : PySem.W.keepIn K (.ref a_Machine_registers) = true)
    (at_Machine_forward : PySem.W.findIn K (.ref aC_Machine) "forward" = some (some (.ref a_Machine_forward))) (is_Machine_forward : PySem.W.isFn K (.ref a_Machine_forward) = true)
    (l_Machine_forward : K.lookup a_Machine_forward = some ⟨oc_Machine_forward, od_Machine_forward, .func (PySem.W.fnOf "forward" "Machine.forward" (defArgs s_Machine_forward) (defBody s_Machine_forward) (defScope s_Machine_forward) .none kV_Machine_forward dc_Machine_forward pm_Machine_forward an_Machine_forward cd_Machine_forward ct_Machine_forward), sl_Machine_forward⟩) (c_Machine_forward : PySem.W.codeIn K cd_Machine_forward "Machine.forward" = true) (k_Machine_forward : PySem.W.keepIn K (.ref a_Machine_forward) = true)
    (at_Machine_backward : PySem.W.findIn K (.ref aC_Machine) "backward" = some (some (.ref a_Machine_backward))) (is_Machine_backward : PySem.W.isFn K (.ref a_Machine_backward) = true)
    (l_Machine_backward : K.lookup a_Machine_backward = some ⟨oc_Machine_backward, od_Machine_backward, .func (PySem.W.fnOf "backward" "Machine.backward" (defArgs s_Machine_backward) (defBody s_Machine_backward) (defScope s_Machine_backward) .none kV_Machine_backward dc_Machine_backward pm_Machine_backward an_Machine_backward cd_Machine_backward ct_Machine_backward), sl_Machine_backward⟩) (c_Machine_backward : PySem.W.codeIn K cd_Machine_backward "Machine.backward" = true) (k_Machine_backward : PySem.W.keepIn K (.ref a_Machine_backward) = true)
    {rest_Machine_position : List Value} (at_Machine_position : PySem.W.findIn K (.ref aC_Machine) "position" = some (some (.ref aP_Machine_position))) (gt_Machine_position : PySem.W.specialIn K (.ref aP_Machine_position) "__get__" = some (some (.builtin "property.__get__"))) (tk_Machine_position : PySem.W.takesIn K (.ref aP_Machine_position) = some true) (rc_Machine_position : PySem.W.recIn K aP_Machine_position "property" = some (.ref a_Machine_position :: rest_Machine_position))
    (l_Machine_position : K.lookup a_Machine_position = some ⟨oc_Machine_position, od_Machine_position, .func (PySem.W.fnOf "position" "Machine.position" (defArgs s_Machine_position) (defBody s_Machine_position) (defScope s_Machine_position) .none kV_Machine_position dc_Machine_position pm_Machine_position an_Machine_position cd_Machine_position ct_Machine_position), sl_Machine_position⟩) (c_Machine_position : PySem.W.codeIn K cd_Machine_position "Machine.position" = true) (k_Machine_position : PySem.W.keepIn K (.ref a_Machine_position) = true)
    (p__law_result : PySem.W.nsIn K mainGlobals "_law_result" = some (some (.ref a__law_result))) (l__law_result : K.lookup a__law_result = some ⟨oc__law_result, od__law_result, .func (PySem.W.fnOf "_law_result" "_law_result" (defArgs s__law_result) (defBody s__law_result) (defScope s__law_result) .none kV__law_result dc__law_result pm__law_result an__law_result cd__law_result ct__law_result), sl__law_result⟩) (c__law_result : PySem.W.codeIn K cd__law_result "_law_result" = true) (k__law_result : PySem.W.keepIn K (.ref a__law_result) = true)
    (p__law_value : PySem.W.nsIn K mainGlobals "_law_value" = some (some (.ref a__law_value))) (l__law_value : K.lookup a__law_value = some ⟨oc__law_value, od__law_value, .func (PySem.W.fnOf "_law_value" "_law_value" (defArgs s__law_value) (defBody s__law_value) (defScope s__law_value) .none kV__law_value dc__law_value pm__law_value an__law_value cd__law_value ct__law_value), sl__law_value⟩) (c__law_value : PySem.W.codeIn K cd__law_value "_law_value" = true) (k__law_value : PySem.W.keepIn K (.ref a__law_value) = true)
    (p__law_after : PySem.W.nsIn K mainGlobals "_law_after" = some (some (.ref a__law_after))) (l__law_after : K.lookup a__law_after = some ⟨oc__law_after, od__law_after, .func (PySem.W.fnOf "_law_after" "_law_after" (defArgs s__law_after) (defBody s__law_after) (defScope s__law_after) .none kV__law_after dc__law_after pm__law_after an__law_after cd__law_after ct__law_after), sl__law_after⟩) (c__law_after : PySem.W.codeIn K cd__law_after "_law_after" = true) (k__law_after : PySem.W.keepIn K (.ref a__law_after) = true)
    (p_law : PySem.W.nsIn K mainGlobals "law" = some (some (.ref a_law))) (l_law : K.lookup a_law = some ⟨oc_law, od_law, .func (PySem.W.fnOf "law" "law" (defArgs s_law) (defBody s_law) (defScope s_law) .none kV_law dc_law pm_law an_law cd_law ct_law), sl_law⟩) (c_law : PySem.W.codeIn K cd_law "law" = true) (k_law : PySem.W.keepIn K (.ref a_law) = true)
    (nf_Machine__code : PySem.W.findIn K (.ref aC_Machine) "_code" = some none)
    (nf_Machine__inputs : PySem.W.findIn K (.ref aC_Machine) "_inputs" = some none)
    (nf_Machine__position : PySem.W.findIn K (.ref aC_Machine) "_position" = some none)
    (nf_Machine__program : PySem.W.findIn K (.ref aC_Machine) "_program" = some none)
    (nf_Machine__states : PySem.W.findIn K (.ref aC_Machine) "_states" = some none)
    (mki_Machine : PySem.W.makesIn K aC_Machine = true) (kc_Machine : PySem.W.keepIn K (.ref aC_Machine) = true)
    (z_int : PySem.W.nsIn K mainGlobals "int" = some none)
    (z_len : PySem.W.nsIn K mainGlobals "len" = some none)
    (z_list : PySem.W.nsIn K mainGlobals "list" = some none)
    (z_max : PySem.W.nsIn K mainGlobals "max" = some none)
    (z_min : PySem.W.nsIn K mainGlobals "min" = some none)
    (z_range : PySem.W.nsIn K mainGlobals "range" = some none)
    (z_str : PySem.W.nsIn K mainGlobals "str" = some none)
    (z_tuple : PySem.W.nsIn K mainGlobals "tuple" = some none)
    {t_REGISTERS : Tok} (q_REGISTERS : PySem.W.nsIn K mainGlobals "REGISTERS" = some (some (.int 8 t_REGISTERS))) :
    ∃ fd : FuncData, (∀ (s : Shared) (v : Value), BindsTo s fd ⟨[v], []⟩ [("_law_script", v)]) ∧ ∀ base : Heap, K.In base → base.Ns mainGlobals mg → FnOk l.prog w K mg base (L2.CX l.prog w) 6 fa fd ["_law_script"] (spTrue K) := by
  have e := hfa.symm.trans (PySem.W.mg_of X G p_law)
  cases e
  have T : Txt K mg a_result_of a_source_value a_performed a_traced a_Machine___init__ a__law_cell a__law_draw a__law_operand a__law_program a__law_random a__law_inputs a_Machine_registers a_Machine_forward a_Machine_backward a_Machine_position a__law_result a__law_value a__law_after fa aC_Machine aP_Machine_position aP_Machine_registers := ⟨PySem.W.mg_of X G pc_Machine, ⟨pc_Machine, pg_Machine, hd2_Machine, po_Machine, sa2_Machine⟩, nf_Machine__code, nf_Machine__inputs, nf_Machine__position, nf_Machine__program, nf_Machine__states, ⟨at_Machine_backward, is_Machine_backward, k_Machine_backward⟩, ⟨at_Machine_forward, is_Machine_forward, k_Machine_forward⟩, ⟨at_Machine_position, gt_Machine_position, tk_Machine_position, ⟨_, rc_Machine_position⟩⟩, ⟨at_Machine_registers, gt_Machine_registers, tk_Machine_registers, ⟨_, rc_Machine_registers⟩⟩, ⟨mki_Machine, at_Machine___init__, is_Machine___init__, kc_Machine⟩, PySem.W.mg_of X G p_result_of, k_result_of, PySem.W.mg_of X G p_source_value, k_source_value, PySem.W.mg_of X G p_performed, k_performed, PySem.W.mg_of X G p_traced, k_traced, PySem.W.mg_of X G p__law_cell, k__law_cell, PySem.W.mg_of X G p__law_draw, k__law_draw, PySem.W.mg_of X G p__law_operand, k__law_operand, PySem.W.mg_of X G p__law_program, k__law_program, PySem.W.mg_of X G p__law_random, k__law_random, PySem.W.mg_of X G p__law_inputs, k__law_inputs, PySem.W.mg_of X G p__law_result, k__law_result, PySem.W.mg_of X G p__law_value, k__law_value, PySem.W.mg_of X G p__law_after, k__law_after, PySem.W.mg_of X G p_law, k_law, PySem.W.mg_none_of X G z_int, PySem.W.mg_none_of X G z_len, PySem.W.mg_none_of X G z_list, PySem.W.mg_none_of X G z_max, PySem.W.mg_none_of X G z_min, PySem.W.mg_none_of X G z_range, PySem.W.mg_none_of X G z_str, PySem.W.mg_none_of X G z_tuple, ⟨_, PySem.W.mg_of X G q_REGISTERS⟩⟩
  have f_result_of := fun_mk (st := s_result_of) l_result_of c_result_of k_result_of
  have b_result_of := f_result_of.binds (ps := ["operation", "left", "right"]) fun _ _ _ _ _ _ us hl => match us, hl with | [_, _, _], _ => rfl
  have f_source_value := fun_mk (st := s_source_value) l_source_value c_source_value k_source_value
  have b_source_value := f_source_value.binds (ps := ["source", "inputs", "registers"]) fun _ _ _ _ _ _ us hl => match us, hl with | [_, _, _], _ => rfl
  have f_performed := fun_mk (st := s_performed) l_performed c_performed k_performed
  have b_performed := f_performed.binds (ps := ["program", "instruction", "inputs", "registers"]) fun _ _ _ _ _ _ us hl => match us, hl with | [_, _, _, _], _ => rfl
  have f_traced := fun_mk (st := s_traced) l_traced c_traced k_traced
  have b_traced := f_traced.binds (ps := ["program", "code", "inputs"]) fun _ _ _ _ _ _ us hl => match us, hl with | [_, _, _], _ => rfl
  have f_Machine___init__ := fun_mk (st := s_Machine___init__) l_Machine___init__ c_Machine___init__ k_Machine___init__
  have b_Machine___init__ := f_Machine___init__.binds (ps := ["self", "program", "code", "inputs"]) fun _ _ _ _ _ _ us hl => match us, hl with | [_, _, _, _], _ => rfl
  have f__law_cell := fun_mk (st := s__law_cell) l__law_cell c__law_cell k__law_cell
  have b__law_cell := f__law_cell.binds (ps := ["_law_script", "_law_k"]) fun _ _ _ _ _ _ us hl => match us, hl with | [_, _], _ => rfl
  have f__law_draw := fun_mk (st := s__law_draw) l__law_draw c__law_draw k__law_draw
  have b__law_draw := f__law_draw.binds (ps := ["_law_script", "_law_k", "_law_sizes"]) fun _ _ _ _ _ _ us hl => match us, hl with | [_, _, _], _ => rfl
  have f__law_operand := fun_mk (st := s__law_operand) l__law_operand c__law_operand k__law_operand
  have b__law_operand := f__law_operand.binds (ps := ["_law_kind", "_law_number", "_law_modulus", "_law_inputs_here", "_law_many"]) fun _ _ _ _ _ _ us hl => match us, hl with | [_, _, _, _, _], _ => rfl
  have f__law_program := fun_mk (st := s__law_program) l__law_program c__law_program k__law_program
  have b__law_program := f__law_program.binds (ps := ["_law_script", "_law_k", "_law_most"]) fun _ _ _ _ _ _ us hl => match us, hl with | [_, _, _], _ => rfl
  have f__law_random := fun_mk (st := s__law_random) l__law_random c__law_random k__law_random
  have b__law_random := f__law_random.binds (ps := ["_law_script", "_law_k", "_law_program_here", "_law_most"]) fun _ _ _ _ _ _ us hl => match us, hl with | [_, _, _, _], _ => rfl
  have f__law_inputs := fun_mk (st := s__law_inputs) l__law_inputs c__law_inputs k__law_inputs
  have b__law_inputs := f__law_inputs.binds (ps := ["_law_script", "_law_k", "_law_program_here"]) fun _ _ _ _ _ _ us hl => match us, hl with | [_, _, _], _ => rfl
  have f_Machine_registers := fun_mk (st := s_Machine_registers) l_Machine_registers c_Machine_registers k_Machine_registers
  have b_Machine_registers := f_Machine_registers.binds (ps := ["self"]) fun _ _ _ _ _ _ us hl => match us, hl with | [_], _ => rfl
  have f_Machine_forward := fun_mk (st := s_Machine_forward) l_Machine_forward c_Machine_forward k_Machine_forward
  have b_Machine_forward := f_Machine_forward.binds (ps := ["self"]) fun _ _ _ _ _ _ us hl => match us, hl with | [_], _ => rfl
  have f_Machine_backward := fun_mk (st := s_Machine_backward) l_Machine_backward c_Machine_backward k_Machine_backward
  have b_Machine_backward := f_Machine_backward.binds (ps := ["self"]) fun _ _ _ _ _ _ us hl => match us, hl with | [_], _ => rfl
  have f_Machine_position := fun_mk (st := s_Machine_position) l_Machine_position c_Machine_position k_Machine_position
  have b_Machine_position := f_Machine_position.binds (ps := ["self"]) fun _ _ _ _ _ _ us hl => match us, hl with | [_], _ => rfl
  have f__law_result := fun_mk (st := s__law_result) l__law_result c__law_result k__law_result
  have b__law_result := f__law_result.binds (ps := ["_law_operation", "_law_left", "_law_right", "_law_modulus"]) fun _ _ _ _ _ _ us hl => match us, hl with | [_, _, _, _], _ => rfl
  have f__law_value := fun_mk (st := s__law_value) l__law_value c__law_value k__law_value
  have b__law_value := f__law_value.binds (ps := ["_law_word", "_law_inputs_here", "_law_others"]) fun _ _ _ _ _ _ us hl => match us, hl with | [_, _, _], _ => rfl
  have f__law_after := fun_mk (st := s__law_after) l__law_after c__law_after k__law_after
  have b__law_after := f__law_after.binds (ps := ["_law_program_here", "_law_code", "_law_inputs_here", "_law_registers"]) fun _ _ _ _ _ _ us hl => match us, hl with | [_, _, _, _], _ => rfl
  have f_law := fun_mk (st := s_law) l_law c_law k_law
  refine ⟨PySem.W.fnOf "law" "law" (defArgs s_law) (defBody s_law) (defScope s_law) .none kV_law dc_law pm_law an_law cd_law ct_law, fun s v => .of_eq rfl, fun base _ _ => ?_⟩
  have G_result_of := ok_result_of (P := l.prog) (w := w) (base := base) (ca := (⟨fun _ => 0, []⟩ : CA)) T  f_result_of
  have G_source_value := ok_source_value (P := l.prog) (w := w) (base := base) (ca := (⟨fun _ => 0, []⟩ : CA)) T  f_source_value
  have G_performed := ok_performed (P := l.prog) (w := w) (base := base) (ca := (⟨fun _ => 0, []⟩ : CA)) T G_result_of b_result_of G_source_value b_source_value f_performed
  have G_traced := ok_traced (P := l.prog) (w := w) (base := base) (ca := (⟨fun _ => 0, []⟩ : CA)) T G_performed b_performed f_traced
  have G_Machine___init__ := ok_Machine___init__ (P := l.prog) (w := w) (base := base) (ca := (⟨fun _ => 0, []⟩ : CA)) T G_traced b_traced f_Machine___init__
  have G__law_cell := ok__law_cell (P := l.prog) (w := w) (base := base) (ca := (⟨fun _ => 0, []⟩ : CA)) T  f__law_cell
  have G__law_draw := ok__law_draw (P := l.prog) (w := w) (base := base) (ca := (⟨fun _ => 0, []⟩ : CA)) T G__law_cell b__law_cell f__law_draw
  have G__law_operand := ok__law_operand (P := l.prog) (w := w) (base := base) (ca := (⟨fun _ => 0, []⟩ : CA)) T  f__law_operand
  have G__law_program := ok__law_program (P := l.prog) (w := w) (base := base) (ca := (⟨fun _ => 0, []⟩ : CA)) T G__law_draw b__law_draw G__law_operand b__law_operand f__law_program
  have G__law_random := ok__law_random (P := l.prog) (w := w) (base := base) (ca := (⟨fun _ => 0, []⟩ : CA)) T G__law_draw b__law_draw f__law_random
  have G__law_inputs := ok__law_inputs (P := l.prog) (w := w) (base := base) (ca := (⟨fun _ => 0, []⟩ : CA)) T G__law_draw b__law_draw f__law_inputs
  have G_Machine_registers := ok_Machine_registers (P := l.prog) (w := w) (base := base) (ca := (⟨fun _ => 0, []⟩ : CA)) T  f_Machine_registers
  have G_Machine_forward := ok_Machine_forward (P := l.prog) (w := w) (base := base) (ca := (⟨fun _ => 0, []⟩ : CA)) T  f_Machine_forward
  have G_Machine_backward := ok_Machine_backward (P := l.prog) (w := w) (base := base) (ca := (⟨fun _ => 0, []⟩ : CA)) T  f_Machine_backward
  have G_Machine_position := ok_Machine_position (P := l.prog) (w := w) (base := base) (ca := (⟨fun _ => 0, []⟩ : CA)) T  f_Machine_position
  have G__law_result := ok__law_result (P := l.prog) (w := w) (base := base) (ca := (⟨fun _ => 0, []⟩ : CA)) T  f__law_result
  have G__law_value := ok__law_value (P := l.prog) (w := w) (base := base) (ca := (⟨fun _ => 0, []⟩ : CA)) T  f__law_value
  have G__law_after := ok__law_after (P := l.prog) (w := w) (base := base) (ca := (⟨fun _ => 0, []⟩ : CA)) T G__law_result b__law_result G__law_value b__law_value f__law_after
  have G_law := ok_law (P := l.prog) (w := w) (base := base) (ca := (⟨fun _ => 0, []⟩ : CA)) T G__law_program b__law_program G__law_random b__law_random G__law_inputs b__law_inputs G_Machine___init__ b_Machine___init__ G__law_draw b__law_draw G_Machine_forward b_Machine_forward G_Machine_backward b_Machine_backward G_Machine_position b_Machine_position G_Machine_registers b_Machine_registers G__law_after b__law_after f_law
  exact G_law.imp fun vs H Q E h => law_true rfl law_holds vs H Q E h
end My
open PySem PySem.W PyProof.Rows
set_option maxHeartbeats 0 in
theorem PySem.Challenge.cw_tidyback_k63_machines_go_forward_and_bac_holds : PySem.Challenge.rw_tidyback_k63_machines_go_forward_and_bac.Holds := by
  w_on; o_law; k_head; (case hw => w_witness2)
  k_fill
  refine L2.walk_of (l := PySem.Challenge.rw_tidyback_k63_machines_go_forward_and_bac) (n := 63) (k := 6) (x := "_law_script") (CX := fun w => L2.CX PySem.Challenge.rw_tidyback_k63_machines_go_forward_and_bac.prog w) (sp := fun w => VL.spTrue _) rfl (by decide) rfl ⟨rfl, by decide, by decide⟩ (fun w h Y => PySem.W.kIn_of Y) ?F (fun _ _ a ns hl _ hS => ⟨a, ns, rfl, hS, hl, fun _ => rfl⟩) (fun _ _ _ _ _ h => by
    obtain ⟨_, _, _, _, _, _, _, _, _, _, _, _, z⟩ := h
    exact z)
  case F =>
    intro w mg fa h KX G hmg
    refine' My.all_mk KX G hmg ?pc_Machine ?pg_Machine ?hd2_Machine ?po_Machine ?sa2_Machine ?p_result_of ?l_result_of ?c_result_of ?k_result_of ?p_source_value ?l_source_value ?c_source_value ?k_source_value ?p_performed ?l_performed ?c_performed ?k_performed ?p_traced ?l_traced ?c_traced ?k_traced ?at_Machine___init__ ?is_Machine___init__ ?l_Machine___init__ ?c_Machine___init__ ?k_Machine___init__ ?p__law_cell ?l__law_cell ?c__law_cell ?k__law_cell ?p__law_draw ?l__law_draw ?c__law_draw ?k__law_draw ?p__law_operand ?l__law_operand ?c__law_operand ?k__law_operand ?p__law_program ?l__law_program ?c__law_program ?k__law_program ?p__law_random ?l__law_random ?c__law_random ?k__law_random ?p__law_inputs ?l__law_inputs ?c__law_inputs ?k__law_inputs ?at_Machine_registers ?gt_Machine_registers ?tk_Machine_registers ?rc_Machine_registers ?l_Machine_registers ?c_Machine_registers ?k_Machine_registers ?at_Machine_forward ?is_Machine_forward ?l_Machine_forward ?c_Machine_forward ?k_Machine_forward ?at_Machine_backward ?is_Machine_backward ?l_Machine_backward ?c_Machine_backward ?k_Machine_backward ?at_Machine_position ?gt_Machine_position ?tk_Machine_position ?rc_Machine_position ?l_Machine_position ?c_Machine_position ?k_Machine_position ?p__law_result ?l__law_result ?c__law_result ?k__law_result ?p__law_value ?l__law_value ?c__law_value ?k__law_value ?p__law_after ?l__law_after ?c__law_after ?k__law_after ?p_law ?l_law ?c_law ?k_law ?nf_Machine__code ?nf_Machine__inputs ?nf_Machine__position ?nf_Machine__program ?nf_Machine__states ?mki_Machine ?kc_Machine ?z_int ?z_len ?z_list ?z_max ?z_min ?z_range ?z_str ?z_tuple ?q_REGISTERS
    (case pc_Machine => k_is); (case pg_Machine => k_is); (case hd2_Machine => k_is); (case po_Machine => k_is); (case sa2_Machine => k_is); (case p_result_of => k_is); (case l_result_of => k_is); (case c_result_of => k_is); (case k_result_of => k_is); (case p_source_value => k_is); (case l_source_value => k_is); (case c_source_value => k_is); (case k_source_value => k_is); (case p_performed => k_is); (case l_performed => k_is); (case c_performed => k_is); (case k_performed => k_is); (case p_traced => k_is); (case l_traced => k_is); (case c_traced => k_is); (case k_traced => k_is); (case at_Machine___init__ => k_is); (case is_Machine___init__ => k_is); (case l_Machine___init__ => k_is); (case c_Machine___init__ => k_is); (case k_Machine___init__ => k_is); (case p__law_cell => k_is); (case l__law_cell => k_is); (case c__law_cell => k_is); (case k__law_cell => k_is); (case p__law_draw => k_is); (case l__law_draw => k_is); (case c__law_draw => k_is); (case k__law_draw => k_is); (case p__law_operand => k_is); (case l__law_operand => k_is); (case c__law_operand => k_is); (case k__law_operand => k_is); (case p__law_program => k_is); (case l__law_program => k_is); (case c__law_program => k_is); (case k__law_program => k_is); (case p__law_random => k_is); (case l__law_random => k_is); (case c__law_random => k_is); (case k__law_random => k_is); (case p__law_inputs => k_is); (case l__law_inputs => k_is); (case c__law_inputs => k_is); (case k__law_inputs => k_is); (case at_Machine_registers => k_is); (case gt_Machine_registers => k_is); (case tk_Machine_registers => k_is); (case rc_Machine_registers => k_is); (case l_Machine_registers => k_is); (case c_Machine_registers => k_is); (case k_Machine_registers => k_is); (case at_Machine_forward => k_is); (case is_Machine_forward => k_is); (case l_Machine_forward => k_is); (case c_Machine_forward => k_is); (case k_Machine_forward => k_is); (case at_Machine_backward => k_is); (case is_Machine_backward => k_is); (case l_Machine_backward => k_is); (case c_Machine_backward => k_is); (case k_Machine_backward => k_is); (case at_Machine_position => k_is); (case gt_Machine_position => k_is); (case tk_Machine_position => k_is); (case rc_Machine_position => k_is); (case l_Machine_position => k_is); (case c_Machine_position => k_is); (case k_Machine_position => k_is); (case p__law_result => k_is); (case l__law_result => k_is); (case c__law_result => k_is); (case k__law_result => k_is); (case p__law_value => k_is); (case l__law_value => k_is); (case c__law_value => k_is); (case k__law_value => k_is); (case p__law_after => k_is); (case l__law_after => k_is); (case c__law_after => k_is); (case k__law_after => k_is); (case p_law => k_is); (case l_law => k_is); (case c_law => k_is); (case k_law => k_is); (case nf_Machine__code => k_is); (case nf_Machine__inputs => k_is); (case nf_Machine__position => k_is); (case nf_Machine__program => k_is); (case nf_Machine__states => k_is); (case mki_Machine => k_is); (case kc_Machine => k_is); (case z_int => k_is); (case z_len => k_is); (case z_list => k_is); (case z_max => k_is); (case z_min => k_is); (case z_range => k_is); (case z_str => k_is); (case z_tuple => k_is); (case q_REGISTERS => k_is)
#print axioms PySem.Challenge.cw_tidyback_k63_machines_go_forward_and_bac_holds
