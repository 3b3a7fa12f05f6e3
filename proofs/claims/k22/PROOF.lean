import PyProof.Rows.All
import Wide.All
import OpenK.AllK
import Wide.FinOn
import HandS.ForMost
import HandS.Exc
import HandS.TryOnly
import HandS.ExcOwn
import HandS.WordsExc
import HandS.CallSlots
import HandS.Deep
import HandS.TupAny
import HandS.SortInts
import HandS.Style
import HandS.IsInst
import HandS.Iter
import HandS.Defaults
import HandS.MakeKwOnly
import HandS.Dict
import KE.KDictDisplayH
import KE.KExcSuper
import HandS.ExcInit
import HandS.ExcField
import HandS.ExcSuper
import KE.KExcIs
import HandS.SortRule
import HandS.TupLe
import HandS.DictSubView
import KE.KDictWalk
import KE.LtData
import HandS.Gcd
import HandS.Conv
import PySem.Challenge.RW_tidyback_k22_price_certificates
set_option Elab.async false
set_option linter.all false
set_option maxRecDepth 100000
set_option maxHeartbeats 8000000
set_option pp.maxSteps 300
namespace VL
open PySem PySem.Spec PyProof.Rows L2

/-! ## data and results -/
inductive Rs (α : Type) where
  | ok (a : α)
  | ex (c : Nat) (fs : List (Str × PyData))
  | no
def Rs.bind {α β : Type} : Rs α → (α → Rs β) → Rs β
  | .ok a, f => f a
  | .ex c fs, _ => .ex c fs
  | .no, _ => .no
@[simp] theorem Rs.bind_ok {α β : Type} (a : α) (f : α → Rs β) : (Rs.ok a).bind f = f a := rfl
@[simp] theorem Rs.bind_ex {α β : Type} (c fs) (f : α → Rs β) : (Rs.ex c fs : Rs α).bind f = .ex c fs := rfl
@[simp] theorem Rs.bind_no {α β : Type} (f : α → Rs β) : (Rs.no : Rs α).bind f = .no := rfl

/-- the classes of the exceptions, and the tables of code objects that may grow -/
structure CA where
  f : Nat → Addr
  T : List Addr
instance : CoeFun CA (fun _ => Nat → Addr) := ⟨CA.f⟩
/-- what a field of an own object holds: plain data, or a list of the object's own -/
inductive FV where
  | d (x : PyData)
  | ol (xs : List PyData)
/-- what an expression comes to: plain data; a list, a dict of its own (o), or borrowed of a slot (b); the script -/
inductive RV where
  | d (x : PyData)
  | ol (xs : List PyData) | bl (xs : List PyData)
  | od (kvs : List (Key × PyData)) | bd (kvs : List (Key × PyData))
  | ot (kvs : List (List Int × PyData)) | bt (kvs : List (List Int × PyData))
  | sc (ns : List Int)
  /-- a caught exception: where it lies, its dict, its class, its fields -/
  | xo (a dd : Addr) (c : Nat) (fs : List (Str × PyData))
  /-- a tuple of data, a frozen list and a frozen dict -/
  | t3 (x : PyData) (ys : List PyData) (kvs : List (Key × PyData))
  /-- a frozen dict -/
  | fd (kvs : List (Key × PyData))
  /-- an instance of the class of that name, of its own (me: the def's own self), and borrowed -/
  | ob (me : Bool) (x : Str) (fs : List (Str × FV))
  | bo (x : Str) (fs : List (Str × FV))
abbrev VEnv := List (Option RV)

/-- no dict of its own stands behind a tuple -/
def NDT (K : PySem.W.Frag) (F : Hp) (a : Addr) : Prop := (∃ o u, F a = some (.frz o u) ∧ o.dict = none) ∨ ∃ o, K.lookup a = some o ∧ o.dict = none
def SqN (K : PySem.W.Frag) (F : Hp) (a : Addr) (xs : List V) : Prop := SqT K F a xs ∧ NDT K F a
mutual
inductive Dq (K : PySem.W.Frag) (F : Hp) : V → PyData → Prop
  | non : Dq K F .non .none
  | bl (b : Bool) : Dq K F (.bl b) (.bool b)
  | int (i : Int) : Dq K F (.int i) (.int i)
  | str (x : Str) : Dq K F (.str x) (.str x)
  | lst {a : Addr} {xs : List V} {ds : List PyData} : F a = some (.lst xs) → DqA K F xs ds → Dq K F (.ref a) (.list ds)
  | tup {a : Addr} {xs : List V} {ds : List PyData} : SqN K F a xs → DqA K F xs ds → Dq K F (.ref a) (.tuple ds)
inductive DqA (K : PySem.W.Frag) (F : Hp) : List V → List PyData → Prop
  | nil : DqA K F [] []
  | cons {v : V} {vs : List V} {d : PyData} {ds : List PyData} : Dq K F v d → DqA K F vs ds → DqA K F (v :: vs) (d :: ds)
end

theorem same_seqT {K : PySem.W.Frag} {H H' : Hp} {a : Addr} {xs : List V} (e : Same H H') (h : SqT K H a xs) : SqT K H' a xs := by
  rcases h with (h | ⟨o, h⟩) | h
  · exact .inl (.inl (e _ _ h))
  · exact .inl (.inr ⟨o, e _ _ h⟩)
  · exact .inr h

theorem same_seqN {K : PySem.W.Frag} {H H' : Hp} {a : Addr} {xs : List V} (e : Same H H') (h : SqN K H a xs) : SqN K H' a xs :=
  ⟨same_seqT e h.1, h.2.imp (fun ⟨o, u, h1, h2⟩ => ⟨o, u, e _ _ h1, h2⟩) id⟩
theorem SqN.frz {K : PySem.W.Frag} {H : Hp} {a : Addr} {xs : List V} {o : Obj} (n : o.dict = none) (h : H a = some (.frz o (.tup xs))) : SqN K H a xs := ⟨.inl (.inr ⟨o, h⟩), .inl ⟨o, _, h, n⟩⟩

mutual
theorem Dq.mono {K : PySem.W.Frag} {F F' : Hp} (e : Same F F') : ∀ (d : PyData) (v : V), Dq K F v d → Dq K F' v d
  | .none, _, h => by cases h; exact .non
  | .bool b, _, h => by cases h; exact .bl b
  | .int i, _, h => by cases h; exact .int i
  | .str x, _, h => by cases h; exact .str x
  | .list ds, _, h => by
    cases h with
    | lst h1 h2 => exact .lst (e _ _ h1) (DqA.mono e ds _ h2)
  | .tuple ds, _, h => by
    cases h with
    | tup h1 h2 => exact .tup (same_seqN e h1) (DqA.mono e ds _ h2)
  | .dict _, _, h => by cases h
theorem DqA.mono {K : PySem.W.Frag} {F F' : Hp} (e : Same F F') : ∀ (ds : List PyData) (vs : List V), DqA K F vs ds → DqA K F' vs ds
  | [], _, h => by cases h; exact .nil
  | d :: ds, _, h => by
    cases h with
    | cons h1 h2 => exact .cons (Dq.mono e d _ h1) (DqA.mono e ds _ h2)
end
mutual
theorem Dq.dp {K : PySem.W.Frag} {F : Hp} : ∀ (d : PyData) (v : V), Dq K F v d → Dp K F v d
  | .none, _, h => by cases h; exact .non
  | .bool b, _, h => by cases h; exact .bl b
  | .int i, _, h => by cases h; exact .int i
  | .str x, _, h => by cases h; exact .str x
  | .list ds, _, h => by
    cases h with
    | lst h1 h2 => exact .lst (SqL.of h1) (DqA.dp ds _ h2)
  | .tuple ds, _, h => by
    cases h with
    | tup h1 h2 => exact .tup h1.1 (DqA.dp ds _ h2)
  | .dict _, _, h => by cases h
theorem DqA.dp {K : PySem.W.Frag} {F : Hp} : ∀ (ds : List PyData) (vs : List V), DqA K F vs ds → DpAll K F vs ds
  | [], _, h => by cases h; exact .nil
  | d :: ds, _, h => by
    cases h with
    | cons h1 h2 => exact .cons (Dq.dp d _ h1) (DqA.dp ds _ h2)
end
theorem DqA.length {K : PySem.W.Frag} {F : Hp} : ∀ {ds : List PyData} {vs : List V}, DqA K F vs ds → vs.length = ds.length
  | [], _, h => by cases h; rfl
  | d :: ds, _, h => by
    cases h with
    | cons h1 h2 => simp [DqA.length h2]
theorem DqA.get {K : PySem.W.Frag} {F : Hp} : ∀ {ds : List PyData} {vs : List V} {i : Nat} {d : PyData}, DqA K F vs ds → ds[i]? = some d → ∃ v, vs[i]? = some v ∧ Dq K F v d
  | [], _, i, _, h, e => by simp at e
  | d :: ds, _, 0, x, h, e => by
    cases h with
    | cons h1 h2 => simp at e; subst e; exact ⟨_, rfl, h1⟩
  | d :: ds, _, i + 1, x, h, e => by
    cases h with
    | cons h1 h2 =>
      obtain ⟨v, q1, q2⟩ := DqA.get (i := i) h2 (by simpa using e)
      exact ⟨v, by simpa using q1, q2⟩
theorem DqA.get' {K : PySem.W.Frag} {F : Hp} : ∀ {ds : List PyData} {vs : List V} {i : Nat} {v : V}, DqA K F vs ds → vs[i]? = some v → ∃ d, ds[i]? = some d ∧ Dq K F v d
  | [], _, i, _, h, e => by cases h; simp at e
  | d :: ds, _, 0, x, h, e => by
    cases h with
    | cons h1 h2 => simp at e; subst e; exact ⟨_, rfl, h1⟩
  | d :: ds, _, i + 1, x, h, e => by
    cases h with
    | cons h1 h2 =>
      obtain ⟨v, q1, q2⟩ := DqA.get' (i := i) h2 (by simpa using e)
      exact ⟨v, by simpa using q1, q2⟩
theorem DqA.append {K : PySem.W.Frag} {F : Hp} : ∀ {ds es : List PyData} {vs ws : List V}, DqA K F vs ds → DqA K F ws es → DqA K F (vs ++ ws) (ds ++ es)
  | [], _, _, _, h, k => by cases h; exact k
  | d :: ds, _, _, _, h, k => by
    cases h with
    | cons h1 h2 => exact .cons h1 (DqA.append h2 k)
theorem DqA.take {K : PySem.W.Frag} {F : Hp} : ∀ {ds : List PyData} {vs : List V} (n : Nat), DqA K F vs ds → DqA K F (vs.take n) (ds.take n)
  | _, _, 0, _ => .nil
  | [], _, n + 1, h => by cases h; exact .nil
  | d :: ds, _, n + 1, h => by
    cases h with
    | cons h1 h2 => exact .cons h1 (DqA.take n h2)
theorem DqA.drop {K : PySem.W.Frag} {F : Hp} : ∀ {ds : List PyData} {vs : List V} (n : Nat), DqA K F vs ds → DqA K F (vs.drop n) (ds.drop n)
  | _, _, 0, h => h
  | [], _, n + 1, h => by cases h; exact .nil
  | d :: ds, _, n + 1, h => by
    cases h with
    | cons h1 h2 => exact DqA.drop n h2
theorem DqA.set {K : PySem.W.Frag} {F : Hp} {v : V} {d : PyData} (q : Dq K F v d) : ∀ {ds : List PyData} {vs : List V} (n : Nat), DqA K F vs ds → DqA K F (vs.set n v) (ds.set n d)
  | [], _, n, h => by cases h; exact .nil
  | _ :: ds, _, 0, h => by
    cases h with
    | cons h1 h2 => exact .cons q h2
  | _ :: ds, _, n + 1, h => by
    cases h with
    | cons h1 h2 => exact .cons h1 (DqA.set q n h2)
theorem DqA.rev {K : PySem.W.Frag} {F : Hp} : ∀ {ds : List PyData} {vs : List V}, DqA K F vs ds → DqA K F vs.reverse ds.reverse
  | [], _, h => by cases h; exact .nil
  | _ :: ds, _, h => by
    cases h with
    | cons h1 h2 => rw [List.reverse_cons, List.reverse_cons]; exact DqA.append (DqA.rev h2) (.cons h1 .nil)
theorem DqA.ints {K : PySem.W.Frag} {F : Hp} : ∀ {ns : List Int} {vs : List V}, DqA K F vs (ns.map PyData.int) → vs = ns.map V.int
  | [], _, h => by cases h; rfl
  | _ :: ns, _, h => by
    cases h with
    | cons h1 h2 => cases h1; rw [DqA.ints h2]; rfl
theorem DqA.of_ints {K : PySem.W.Frag} {F : Hp} : ∀ (ns : List Int), DqA K F (ns.map V.int) (ns.map PyData.int)
  | [] => .nil
  | i :: ns => .cons (.int i) (DqA.of_ints ns)

/-! ## the frozen part of the heap -/
/-- no table -/
class NT (o : HO) : Prop where
  nt : ∀ ps, o ≠ .tbl ps
instance {xs} : NT (.lst xs) := ⟨fun _ z => by cases z⟩
instance {xs} : NT (.tup xs) := ⟨fun _ z => by cases z⟩
instance {xs} : NT (.dK xs) := ⟨fun _ z => by cases z⟩
instance {xs} : NT (.dT xs) := ⟨fun _ z => by cases z⟩
instance {S n} : NT (.set S n) := ⟨fun _ z => by cases z⟩
instance {C d f} : NT (.ins C d f) := ⟨fun _ z => by cases z⟩
instance {x} : NT (.own x) := ⟨fun _ z => by cases z⟩
instance {x} : NT (.xd x) := ⟨fun _ z => by cases z⟩
instance {f x} : NT (.met f x) := ⟨fun _ z => by cases z⟩
instance {f x} : NT (.rng f x) := ⟨fun _ z => by cases z⟩
instance {f x} : NT (.frz f x) := ⟨fun _ z => by cases z⟩
instance {f} : NT (.ext f) := ⟨fun _ z => by cases z⟩
/-- the frozen part F of H: all tuples are in it -/
structure Cfg (F H : Hp) : Prop where
  sub : Same F H
  tup : ∀ a xs, H a = some (.tup xs) → F a = some (.tup xs)
  nt : ∀ a ps, F a ≠ some (.tbl ps)
/-- what stood stands; tables may have grown -/
structure SameN (H H' : Hp) : Prop where
  st : ∀ a o, H a = some o → (∀ ps, o ≠ .tbl ps) → H' a = some o
  tb : ∀ a ps, H a = some (.tbl ps) → ∃ ps', H' a = some (.tbl ps') ∧ (TriplesOk ps.toList → TriplesOk ps'.toList)
instance {H H' : Hp} : CoeFun (SameN H H') (fun _ => ∀ a o [NT o], H a = some o → H' a = some o) := ⟨fun e => (fun a o [i : NT o] h => e.st a o h i.nt)⟩
theorem _root_.L2.Same.n {H H' : Hp} (e : Same H H') : SameN H H' := ⟨fun a o h _ => e a o h, fun a ps h => ⟨ps, e a _ h, id⟩⟩
theorem SameN.refl (H : Hp) : SameN H H := (Same.refl H).n
theorem SameN.trans {H H1 H2 : Hp} (a : SameN H H1) (b : SameN H1 H2) : SameN H H2 :=
  ⟨fun c o h nt => b.st c o (a.st c o h nt) nt, fun c ps h => by
    obtain ⟨p1, h1, t1⟩ := a.tb c ps h
    obtain ⟨p2, h2, t2⟩ := b.tb c p1 h1
    exact ⟨p2, h2, fun t => t2 (t1 t)⟩⟩
theorem SameN.free {H H' : Hp} (e : SameN H H') {a : Addr} (h : H' a = none) : H a = none := by
  cases q : H a with
  | none => rfl
  | some o =>
    by_cases t : ∃ ps, o = .tbl ps
    · obtain ⟨ps, rfl⟩ := t
      obtain ⟨ps', h2, _⟩ := e.tb a ps q
      rw [h] at h2; cases h2
    · have := e.st a o q fun ps z => t ⟨ps, z⟩
      rw [h] at this; cases this
theorem SameN.seq {K : PySem.W.Frag} {H H' : Hp} {a : Addr} {xs : List V} (e : SameN H H') (h : SqL K H a xs) : SqL K H' a xs := by
  rcases h with (h | ⟨o, h⟩) | h
  · exact .inl (.inl (e _ _ h))
  · exact .inl (.inr ⟨o, e _ _ h⟩)
  · exact .inr h
theorem SameN.seqT {K : PySem.W.Frag} {H H' : Hp} {a : Addr} {xs : List V} (e : SameN H H') (h : SqT K H a xs) : SqT K H' a xs := by
  rcases h with (h | ⟨o, h⟩) | h
  · exact .inl (.inl (e _ _ h))
  · exact .inl (.inr ⟨o, e _ _ h⟩)
  · exact .inr h
structure Grow (F H F' H' : Hp) : Prop where
  cfg : Cfg F' H'
  ff : Same F F'
  hh : SameN H H'
  nw : ∀ a o, F' a = some o → F a = some o ∨ H a = none
theorem Grow.refl {F H : Hp} (c : Cfg F H) : Grow F H F H := ⟨c, Same.refl _, SameN.refl _, fun _ _ h => .inl h⟩
theorem same_none {H H' : Hp} (e : Same H H') {a : Addr} (h : H' a = none) : H a = none := e.free h
theorem none_n {H H' : Hp} (e : SameN H H') {a : Addr} (h : H' a = none) : H a = none := e.free h
/-- a table grows -/
theorem Grow.table {F H : Hp} (c : Cfg F H) {P : Addr} {ps ps' : Array Value} (h : H P = some (.tbl ps)) (f : F P = none) (t : TriplesOk ps'.toList) : Grow F H F (upd H P (.tbl ps')) where
  cfg := ⟨fun b o e => by rw [upd_ne (show b ≠ P from fun z => by rw [z, f] at e; cases e)]; exact c.sub b o e, fun b xs e => by
    by_cases z : b = P
    · rw [z, upd_same] at e; cases e
    · rw [upd_ne z] at e; exact c.tup b xs e, c.nt⟩
  ff := Same.refl _
  hh := ⟨fun b o e nt => by
    by_cases z : b = P
    · rw [z, h] at e; exact absurd (Option.some.inj e).symm (nt ps)
    · rw [upd_ne z]; exact e, fun b qs e => by
    by_cases z : b = P
    · exact ⟨ps', by rw [z, upd_same], fun _ => t⟩
    · exact ⟨qs, by rw [upd_ne z]; exact e, id⟩⟩
  nw := fun _ _ e => .inl e
theorem Grow.trans {F H F1 H1 F2 H2 : Hp} (a : Grow F H F1 H1) (b : Grow F1 H1 F2 H2) : Grow F H F2 H2 :=
  ⟨b.cfg, a.ff.trans b.ff, a.hh.trans b.hh, fun x o h => by
    rcases b.nw x o h with h | h
    · exact a.nw x o h
    · exact .inr (none_n a.hh h)⟩
theorem Grow.stillFree {F H F' H' : Hp} (g : Grow F H F' H') {p : Addr} {o : HO} (f : F p = none) (h : H p = some o) : F' p = none := by
  cases q : F' p with
  | none => rfl
  | some u =>
    rcases g.nw p u q with z | z
    · rw [f] at z; cases z
    · rw [h] at z; cases z
/-- a new frozen object -/
theorem Grow.newF {F H : Hp} (c : Cfg F H) {p : Addr} (o : HO) [i : NT o] (n : H p = none) : Grow F H (upd F p o) (upd H p o) where
  cfg := ⟨fun b u h => by
      by_cases e : b = p
      · subst e; rw [upd_same] at h ⊢; exact h
      · rw [upd_ne e] at h ⊢; exact c.sub b u h, fun b xs h => by
      by_cases e : b = p
      · subst e; rw [upd_same] at h ⊢; exact h
      · rw [upd_ne e] at h ⊢; exact c.tup b xs h, fun b ps h => by
      by_cases e : b = p
      · subst e; rw [upd_same] at h; exact i.nt ps (Option.some.inj h)
      · rw [upd_ne e] at h; exact c.nt b ps h⟩
  ff := fun b u h => by rw [upd_ne (ne_of_none h (same_none c.sub n))]; exact h
  hh := Same.n fun b u h => by rw [upd_ne (ne_of_none h n)]; exact h
  nw := fun b u h => by
    by_cases e : b = p
    · subst e; exact .inr n
    · rw [upd_ne e] at h; exact .inl h
/-- a new object of its own (no tuple) -/
theorem Grow.newO {F H : Hp} (c : Cfg F H) {p : Addr} (o : HO) (n : H p = none) (nt : ∀ xs, o ≠ .tup xs) : Grow F H F (upd H p o) where
  cfg := ⟨fun b u h => by rw [upd_ne (ne_of_none (c.sub _ _ h) n)]; exact c.sub b u h, fun b xs h => by
      by_cases e : b = p
      · subst e; rw [upd_same] at h; exact absurd (Option.some.inj h) (nt xs)
      · rw [upd_ne e] at h; exact c.tup b xs h, c.nt⟩
  ff := Same.refl _
  hh := Same.n fun b u h => by rw [upd_ne (ne_of_none h n)]; exact h
  nw := fun _ _ h => .inl h
/-- what stood of its own is frozen -/
theorem Grow.freeze {F0 H0 F H : Hp} (g : Grow F0 H0 F H) {p : Addr} {o : HO} [i : NT o] (n0 : H0 p = none) (f : F p = none) (h : H p = some o) : Grow F0 H0 (upd F p o) H where
  cfg := ⟨fun b u q => by
      by_cases e : b = p
      · subst e; rw [upd_same] at q; cases q; exact h
      · rw [upd_ne e] at q; exact g.cfg.sub b u q, fun b xs q => by
      by_cases e : b = p
      · subst e; rw [q] at h; cases h; exact upd_same
      · rw [upd_ne e]; exact g.cfg.tup b xs q, fun b ps q => by
      by_cases e : b = p
      · subst e; rw [upd_same] at q; exact i.nt ps (Option.some.inj q)
      · rw [upd_ne e] at q; exact g.cfg.nt b ps q⟩
  ff := fun b u q => by
    have : b ≠ p := fun e => by subst e; rw [g.ff b u q] at f; cases f
    rw [upd_ne this]; exact g.ff b u q
  hh := g.hh
  nw := fun b u q => by
    by_cases e : b = p
    · subst e; exact .inr n0
    · rw [upd_ne e] at q; exact g.nw b u q
/-- an object of its own changes -/
theorem Grow.write {F0 H0 F H : Hp} (g : Grow F0 H0 F H) {p : Addr} {o o' : HO} (n0 : H0 p = none) (f : F p = none) (h : H p = some o) (nt : ∀ xs, o' ≠ .tup xs) : Grow F0 H0 F (upd H p o') where
  cfg := ⟨fun b u q => by
      have : b ≠ p := fun e => by subst e; rw [q] at f; cases f
      rw [upd_ne this]; exact g.cfg.sub b u q, fun b xs q => by
      by_cases e : b = p
      · subst e; rw [upd_same] at q; exact absurd (Option.some.inj q) (nt xs)
      · rw [upd_ne e] at q; exact g.cfg.tup b xs q, g.cfg.nt⟩
  ff := g.ff
  hh := ⟨fun b u q nt => by
    have : b ≠ p := fun e => by subst e; rw [q] at n0; cases n0
    rw [upd_ne this]; exact g.hh.st b u q nt, fun b ps q => by
    have : b ≠ p := fun e => by subst e; rw [q] at n0; cases n0
    rw [upd_ne this]; exact g.hh.tb b ps q⟩
  nw := g.nw

/-! ## what a value stands for -/
def KD {κ : Type} (K : PySem.W.Frag) (F : Hp) : List (κ × V) → List (κ × PyData) → Prop := Paired fun (p : κ × V) (q : κ × PyData) => p.1 = q.1 ∧ Dq K F p.2 q.2
theorem KD.mono {κ : Type} {K : PySem.W.Frag} {F F' : Hp} (e : Same F F') {a : List (κ × V)} {b : List (κ × PyData)} (h : KD K F a b) : KD K F' a b :=
  Paired.mapP h fun _ _ z => ⟨z.1, z.2.mono e⟩
/-- a dict whose keys are tuples of ints, by its entries -/
def hashT (ks : List Int) : Int := reduceHash (Builtin.Tuple.tupleHashOf (ks.map hashInt))
abbrev TX := Nat × List (List Int × Addr × Value)
def DTOk (d : Addr) (t : TX) (h : Heap) : Prop := ∃ o es, h.get? d = some o ∧ o.ExactDict ∧ o.data = .dict es t.1 ∧ es.toList = t.2.map (fun x => (⟨hashT x.1, .ref x.2.1, x.2.2⟩ : DictEntry)) ∧ (t.2.map (·.1)).Nodup ∧ t.2.length ≤ sizeLine ∧ (d == sysModules) = false
def DTO (d : Addr) (xs : TX) : HO := .ext (DTOk d xs)
def KTl (K : PySem.W.Frag) (F : Hp) : List (List Int × Addr × Value) → List (List Int × PyData) → Prop := Paired fun p q => p.1 = q.1 ∧ SqN K F p.2.1 (p.1.map V.int) ∧ ∃ v, RelV v p.2.2 ∧ Dq K F v q.2
def KTq (K : PySem.W.Frag) (F : Hp) (t : TX) (kvs : List (List Int × PyData)) : Prop := KTl K F t.2 kvs
theorem KTl.mono {K : PySem.W.Frag} {F F' : Hp} (e : Same F F') {a : List (List Int × Addr × Value)} {b : List (List Int × PyData)} (h : KTl K F a b) : KTl K F' a b :=
  Paired.mapP h fun _ _ z => ⟨z.1, same_seqN e z.2.1, z.2.2.choose, z.2.2.choose_spec.1, z.2.2.choose_spec.2.mono e⟩
theorem KTq.mono {K : PySem.W.Frag} {F F' : Hp} (e : Same F F') {a : TX} {b : List (List Int × PyData)} (h : KTq K F a b) : KTq K F' a b := KTl.mono e h
instance {d : Addr} {xs : TX} : NT (DTO d xs) := ⟨fun ps z => by
  have z' : HO.ext _ = HO.tbl ps := z
  cases z'⟩
theorem DTO_tup {d : Addr} {xs : TX} (ys : List V) : DTO d xs ≠ .tup ys := fun z => by
  have z' : HO.ext _ = HO.tup ys := z
  cases z'
/-- the fields of an instance -/
def FVok (K : PySem.W.Frag) (H0 F H : Hp) (v : V) : FV → Prop
  | .d x => Dq K F v x
  | .ol xs => ∃ q ws, v = .ref q ∧ H0 q = none ∧ F q = none ∧ H q = some (.lst ws) ∧ DqA K F ws xs
def FVb (K : PySem.W.Frag) (F H : Hp) (v : V) : FV → Prop
  | .d x => Dq K F v x
  | .ol xs => ∃ q ws, v = .ref q ∧ H q = some (.lst ws) ∧ DqA K F ws xs
def FOk (K : PySem.W.Frag) (H0 F H : Hp) : List (Str × V) → List (Str × FV) → Prop := Paired fun a b => a.1 = b.1 ∧ FVok K H0 F H a.2 b.2
def FBk (K : PySem.W.Frag) (F H : Hp) : List (Str × V) → List (Str × FV) → Prop := Paired fun a b => a.1 = b.1 ∧ FVb K F H a.2 b.2
/-- the addresses of an instance's own lists -/
def lad : List (Str × V) → List (Str × FV) → List Addr
  | (_, .ref q) :: vs, (_, .ol _) :: fs => q :: lad vs fs
  | _ :: vs, _ :: fs => lad vs fs
  | _, _ => []
def fla (H : Hp) (p : Addr) (fs : List (Str × FV)) : List Addr := match H p with
  | some (.ins _ _ vs) => lad vs fs
  | _ => []
def ClsNm (K : PySem.W.Frag) (x : Str) (C : Addr) : Prop := PySem.W.nsIn K mainGlobals x = some (some (.ref C))
theorem fla_eq {H : Hp} {p C dx : Addr} {vs : List (Str × V)} (fs : List (Str × FV)) (h : H p = some (.ins C dx vs)) : fla H p fs = lad vs fs := by unfold fla; rw [h]
theorem FOk.at {K : PySem.W.Frag} {H0 F H : Hp} {q : Addr} : ∀ {vs : List (Str × V)} {fs : List (Str × FV)}, FOk K H0 F H vs fs → q ∈ lad vs fs → H0 q = none ∧ F q = none ∧ ∃ ws, H q = some (.lst ws)
  | _, _, .nil, h => by simp [lad] at h
  | (n, v) :: vs, (m, f) :: fs, .cons h1 h2, h => by
    cases f with
    | d x => cases v <;> exact FOk.at h2 (by simpa [lad] using h)
    | ol xs =>
      obtain ⟨_, a, ws, e, n0, f0, hq, _⟩ := h1
      have e : v = .ref a := e
      subst e
      simp only [lad, List.mem_cons] at h
      rcases h with rfl | h
      · exact ⟨n0, f0, ws, hq⟩
      · exact FOk.at h2 h
theorem FBk.at {K : PySem.W.Frag} {F H : Hp} {q : Addr} : ∀ {vs : List (Str × V)} {fs : List (Str × FV)}, FBk K F H vs fs → q ∈ lad vs fs → ∃ ws, H q = some (.lst ws)
  | _, _, .nil, h => by simp [lad] at h
  | (n, v) :: vs, (m, f) :: fs, .cons h1 h2, h => by
    cases f with
    | d x => cases v <;> exact FBk.at h2 (by simpa [lad] using h)
    | ol xs =>
      obtain ⟨_, a, ws, e, hq, _⟩ := h1
      have e : v = .ref a := e
      subst e
      simp only [lad, List.mem_cons] at h
      rcases h with rfl | h
      · exact ⟨ws, hq⟩
      · exact FBk.at h2 h
/-- the fields in another state -/
theorem FOk.to {K : PySem.W.Frag} {H0 F H H0' F' H' : Hp} (e : Same F F') : ∀ {vs : List (Str × V)} {fs : List (Str × FV)}, FOk K H0 F H vs fs → (∀ q ∈ lad vs fs, ∀ ws, H0 q = none → F q = none → H q = some (.lst ws) → H0' q = none ∧ F' q = none ∧ H' q = some (.lst ws)) → FOk K H0' F' H' vs fs
  | _, _, .nil, _ => .nil
  | (n, v) :: vs, (m, f) :: fs, .cons h1 h2, h => by
    refine .cons ⟨h1.1, ?_⟩ (FOk.to e h2 fun q hq => h q ?_)
    · cases f with
      | d x => exact Dq.mono e x v h1.2
      | ol xs =>
        obtain ⟨_, a, ws, ev, n0, f0, hq, dq⟩ := h1
        have ev : v = .ref a := ev
        subst ev
        obtain ⟨a1, a2, a3⟩ := h a (by simp [lad]) ws n0 f0 hq
        exact ⟨a, ws, rfl, a1, a2, a3, DqA.mono e _ _ dq⟩
    · cases f <;> cases v <;> first | exact hq | exact List.mem_cons_of_mem _ hq
theorem FBk.to {K : PySem.W.Frag} {F H F' H' : Hp} (e : Same F F') : ∀ {vs : List (Str × V)} {fs : List (Str × FV)}, FBk K F H vs fs → (∀ q ∈ lad vs fs, ∀ ws, H q = some (.lst ws) → H' q = some (.lst ws)) → FBk K F' H' vs fs
  | _, _, .nil, _ => .nil
  | (n, v) :: vs, (m, f) :: fs, .cons h1 h2, h => by
    refine .cons ⟨h1.1, ?_⟩ (FBk.to e h2 fun q hq => h q ?_)
    · cases f with
      | d x => exact Dq.mono e x v h1.2
      | ol xs =>
        obtain ⟨_, a, ws, ev, hq, dq⟩ := h1
        have ev : v = .ref a := ev
        subst ev
        exact ⟨a, ws, rfl, h a (by simp [lad]) ws hq, DqA.mono e _ _ dq⟩
    · cases f <;> cases v <;> first | exact hq | exact List.mem_cons_of_mem _ hq
theorem FOk.bor {K : PySem.W.Frag} {H0 F H : Hp} : ∀ {vs : List (Str × V)} {fs : List (Str × FV)}, FOk K H0 F H vs fs → FBk K F H vs fs
  | _, _, .nil => .nil
  | (n, v) :: vs, (m, f) :: fs, .cons h1 h2 => by
    refine .cons ⟨h1.1, ?_⟩ (FOk.bor h2)
    cases f with
    | d x => exact h1.2
    | ol xs => obtain ⟨_, a, ws, ev, _, _, hq, dq⟩ := h1; exact ⟨a, ws, ev, hq, dq⟩
def ObOk (K : PySem.W.Frag) (H0 F H : Hp) (p : Addr) (x : Str) (fs : List (Str × FV)) : Prop := ∃ C dx vs, ClsNm K x C ∧ H p = some (.ins C dx vs) ∧ H0 p = none ∧ F p = none ∧ FOk K H0 F H vs fs ∧ (lad vs fs).Nodup
theorem ObOk.to {K : PySem.W.Frag} {H0 F H H0' F' H' : Hp} {p : Addr} {x : Str} {fs : List (Str × FV)} (h : ObOk K H0 F H p x fs) (e : Same F F') (n0 : H0' p = none) (f0 : F' p = none) (hp : H' p = H p)
    (hq : ∀ q ∈ fla H p fs, ∀ ws, H0 q = none → F q = none → H q = some (.lst ws) → H0' q = none ∧ F' q = none ∧ H' q = some (.lst ws)) : ObOk K H0' F' H' p x fs := by
  obtain ⟨C, dx, vs, c, h1, _, _, fo, nd⟩ := h
  exact ⟨C, dx, vs, c, hp.trans h1, n0, f0, fo.to e (by rw [fla_eq fs h1] at hq; exact hq), nd⟩
theorem ObOk.at {K : PySem.W.Frag} {H0 F H : Hp} {p q : Addr} {x : Str} {fs : List (Str × FV)} (h : ObOk K H0 F H p x fs) (hq : q ∈ fla H p fs) : H0 q = none ∧ F q = none ∧ ∃ ws, H q = some (.lst ws) := by
  obtain ⟨C, dx, vs, c, h1, _, _, fo, nd⟩ := h
  rw [fla_eq fs h1] at hq
  exact fo.at hq
def BoOk (K : PySem.W.Frag) (F H : Hp) (p : Addr) (x : Str) (fs : List (Str × FV)) : Prop := ∃ C dx vs, ClsNm K x C ∧ H p = some (.ins C dx vs) ∧ FBk K F H vs fs
theorem BoOk.to {K : PySem.W.Frag} {F H F' H' : Hp} {p : Addr} {x : Str} {fs : List (Str × FV)} (h : BoOk K F H p x fs) (e : Same F F') (hp : H' p = H p) (hq : ∀ q ∈ fla H p fs, ∀ ws, H q = some (.lst ws) → H' q = some (.lst ws)) : BoOk K F' H' p x fs := by
  obtain ⟨C, dx, vs, c, h1, fo⟩ := h
  exact ⟨C, dx, vs, c, hp.trans h1, fo.to e (by rw [fla_eq fs h1] at hq; exact hq)⟩
theorem BoOk.at {K : PySem.W.Frag} {F H : Hp} {p q : Addr} {x : Str} {fs : List (Str × FV)} (h : BoOk K F H p x fs) (hq : q ∈ fla H p fs) : ∃ ws, H q = some (.lst ws) := by
  obtain ⟨C, dx, vs, c, h1, fo⟩ := h
  rw [fla_eq fs h1] at hq
  exact fo.at hq
theorem ObOk.bo {K : PySem.W.Frag} {H0 F H : Hp} {p : Addr} {x : Str} {fs : List (Str × FV)} (h : ObOk K H0 F H p x fs) : BoOk K F H p x fs := by
  obtain ⟨C, dx, vs, c, h1, _, _, fo, nd⟩ := h
  exact ⟨C, dx, vs, c, h1, fo.bor⟩
theorem ObOk.ins {K : PySem.W.Frag} {H0 F H : Hp} {p : Addr} {x : Str} {fs : List (Str × FV)} (h : ObOk K H0 F H p x fs) : ∃ C dx vs, H p = some (.ins C dx vs) := by
  obtain ⟨C, dx, vs, c, h1, _⟩ := h
  exact ⟨C, dx, vs, h1⟩
theorem BoOk.ins {K : PySem.W.Frag} {F H : Hp} {p : Addr} {x : Str} {fs : List (Str × FV)} (h : BoOk K F H p x fs) : ∃ C dx vs, H p = some (.ins C dx vs) := by
  obtain ⟨C, dx, vs, c, h1, _⟩ := h
  exact ⟨C, dx, vs, h1⟩
def RVok (K : PySem.W.Frag) (H0 F H : Hp) (v : V) : RV → Prop
  | .d x => Dq K F v x
  | .ol xs => ∃ p vs, v = .ref p ∧ H0 p = none ∧ F p = none ∧ H p = some (.lst vs) ∧ DqA K F vs xs
  | .bl xs => ∃ p vs, v = .ref p ∧ H p = some (.lst vs) ∧ DqA K F vs xs
  | .od xs => ∃ p vs, v = .ref p ∧ H0 p = none ∧ F p = none ∧ H p = some (.dK vs) ∧ KD K F vs xs
  | .bd xs => ∃ p vs, v = .ref p ∧ Rd H p (.dK vs) ∧ KD K F vs xs
  | .ot xs => ∃ p vs, v = .ref p ∧ H0 p = none ∧ F p = none ∧ H p = some (DTO p vs) ∧ KTq K F vs xs
  | .bt xs => ∃ p vs, v = .ref p ∧ H p = some (DTO p vs) ∧ KTq K F vs xs
  | .sc ns => ∃ a, v = .ref a ∧ SqL K F a (ns.map V.int)
  | .xo a dd _ fs => v = .ref a ∧ ∃ xs, H dd = some (.xd xs) ∧ KD K F xs fs
  | .t3 x ys kvs => ∃ p w l d vs us, v = .ref p ∧ SqT K F p [w, .ref l, .ref d] ∧ Dq K F w x ∧ (F l = some (.lst vs) ∧ DqA K F vs ys) ∧ (∃ o, F d = some (.frz o (.dK us))) ∧ KD K F us kvs
  | .fd kvs => ∃ p us, v = .ref p ∧ (∃ o, F p = some (.frz o (.dK us))) ∧ KD K F us kvs
  | .ob _ x fs => ∃ p, v = .ref p ∧ ObOk K H0 F H p x fs
  | .bo x fs => ∃ p, v = .ref p ∧ BoOk K F H p x fs
theorem t3_mono {K : PySem.W.Frag} {H0 F H H0' F' H' : Hp} {v : V} {x : PyData} {ys : List PyData} {kvs : List (Key × PyData)} (e : Same F F') (h : RVok K H0 F H v (.t3 x ys kvs)) : RVok K H0' F' H' v (.t3 x ys kvs) := by
  obtain ⟨p, w, l, d, vs, us, ev, s, qw, ⟨hl, ql⟩, ⟨o, hd⟩, qd⟩ := h
  exact ⟨p, w, l, d, vs, us, ev, same_seqT e s, Dq.mono e x w qw, ⟨e _ _ hl, DqA.mono e _ _ ql⟩, ⟨o, e _ _ hd⟩, qd.mono e⟩
theorem fd_mono {K : PySem.W.Frag} {H0 F H H0' F' H' : Hp} {v : V} {kvs : List (Key × PyData)} (e : Same F F') (h : RVok K H0 F H v (.fd kvs)) : RVok K H0' F' H' v (.fd kvs) := by
  obtain ⟨p, us, ev, ⟨o, hd⟩, qd⟩ := h
  exact ⟨p, us, ev, ⟨o, e _ _ hd⟩, qd.mono e⟩
theorem fla_grow {H H' : Hp} (e : SameN H H') {p : Addr} (fs : List (Str × FV)) (h : ∃ C dx vs, H p = some (.ins C dx vs)) : fla H' p fs = fla H p fs := by
  obtain ⟨C, dx, vs, h⟩ := h
  rw [fla_eq fs h, fla_eq fs (e _ _ h)]
theorem ObOk.grow {K : PySem.W.Frag} {H0 F H F' H' : Hp} {p : Addr} {x : Str} {fs : List (Str × FV)} (h : ObOk K H0 F H p x fs) (g : Grow F H F' H') : ObOk K H0 F' H' p x fs := by
  have h' := h
  obtain ⟨C, dx, vs, c, h1, n0, f0, _⟩ := h'
  exact h.to g.ff n0 (g.stillFree f0 h1) ((g.hh _ _ h1).trans h1.symm) fun q _ ws n f e => ⟨n, g.stillFree f e, g.hh _ _ e⟩
theorem BoOk.grow {K : PySem.W.Frag} {F H F' H' : Hp} {p : Addr} {x : Str} {fs : List (Str × FV)} (h : BoOk K F H p x fs) (ff : Same F F') (hh : SameN H H') : BoOk K F' H' p x fs := by
  have h' := h
  obtain ⟨C, dx, vs, c, h1, _⟩ := h'
  exact h.to ff ((hh _ _ h1).trans h1.symm) fun q _ ws e => hh _ _ e
theorem RVok.grow {K : PySem.W.Frag} {H0 F H F' H' : Hp} {v : V} {r : RV} (h : RVok K H0 F H v r) (g : Grow F H F' H') : RVok K H0 F' H' v r := by
  cases r with
  | d x => exact Dq.mono g.ff x v h
  | ol xs => obtain ⟨p, vs, e, n0, f, hp, q⟩ := h; exact ⟨p, vs, e, n0, g.stillFree f hp, g.hh _ _ hp, DqA.mono g.ff _ _ q⟩
  | bl xs => obtain ⟨p, vs, e, hp, q⟩ := h; exact ⟨p, vs, e, g.hh _ _ hp, DqA.mono g.ff _ _ q⟩
  | od xs => obtain ⟨p, vs, e, n0, f, hp, q⟩ := h; exact ⟨p, vs, e, n0, g.stillFree f hp, g.hh _ _ hp, q.mono g.ff⟩
  | bd xs => obtain ⟨p, vs, e, hp, q⟩ := h; exact ⟨p, vs, e, hp.imp (g.hh _ _) (fun ⟨o, z⟩ => ⟨o, g.hh _ _ z⟩), q.mono g.ff⟩
  | ot xs => obtain ⟨p, vs, e, n0, f, hp, q⟩ := h; exact ⟨p, vs, e, n0, g.stillFree f hp, g.hh _ _ hp, q.mono g.ff⟩
  | bt xs => obtain ⟨p, vs, e, hp, q⟩ := h; exact ⟨p, vs, e, g.hh _ _ hp, q.mono g.ff⟩
  | sc ns => obtain ⟨a, e, q⟩ := h; exact ⟨a, e, g.ff.seq q⟩
  | xo a dd c fs => obtain ⟨e, xs, hp, q⟩ := h; exact ⟨e, xs, g.hh _ _ hp, q.mono g.ff⟩
  | t3 x ys kvs => exact t3_mono g.ff h
  | fd kvs => exact fd_mono g.ff h
  | ob me x fs => obtain ⟨p, e, h⟩ := h; exact ⟨p, e, h.grow g⟩
  | bo x fs => obtain ⟨p, e, h⟩ := h; exact ⟨p, e, h.grow g.ff g.hh⟩
/-- fresh over a later heap is fresh over an earlier one -/
theorem RVok.older {K : PySem.W.Frag} {H0 H1 F H : Hp} {v : V} {r : RV} (h : RVok K H1 F H v r) (e : SameN H0 H1) : RVok K H0 F H v r := by
  cases r with
  | ol xs => obtain ⟨p, vs, e1, n0, q⟩ := h; exact ⟨p, vs, e1, none_n e n0, q⟩
  | od xs => obtain ⟨p, vs, e1, n0, q⟩ := h; exact ⟨p, vs, e1, none_n e n0, q⟩
  | ot xs => obtain ⟨p, vs, e1, n0, q⟩ := h; exact ⟨p, vs, e1, none_n e n0, q⟩
  | ob me x fs =>
    obtain ⟨p, ev, h⟩ := h
    have h' := h
    obtain ⟨C, dx, vs, c, h1, n0, f0, _⟩ := h'
    exact ⟨p, ev, h.to (Same.refl _) (none_n e n0) f0 rfl fun q _ ws n f eq => ⟨none_n e n, f, eq⟩⟩
  | _ => exact h

/-- of its own -/
def RV.own : RV → Bool
  | .ol _ | .od _ | .ot _ | .ob _ _ _ => true
  | _ => false
def RV.isB : RV → Bool
  | .bl _ | .bd _ | .bt _ | .bo _ _ => true
  | _ => false
/-- borrowed -/
def RV.bor : RV → RV
  | .ol xs => .bl xs
  | .od xs => .bd xs
  | .ot xs => .bt xs
  | .ob _ x fs => .bo x fs
  | r => r
theorem RVok.bor {K : PySem.W.Frag} {H0 F H : Hp} {v : V} {r : RV} (h : RVok K H0 F H v r) : RVok K H0 F H v r.bor := by
  cases r with
  | ol xs => obtain ⟨p, vs, e1, n0, f, q⟩ := h; exact ⟨p, vs, e1, q⟩
  | od xs => obtain ⟨p, vs, e1, n0, f, hp, q⟩ := h; exact ⟨p, vs, e1, .inl hp, q⟩
  | ot xs => obtain ⟨p, vs, e1, n0, f, q⟩ := h; exact ⟨p, vs, e1, q⟩
  | ob me x fs => obtain ⟨p, e1, h⟩ := h; exact ⟨p, e1, h.bo⟩
  | _ => exact h

/-! ## the state of a body -/
structure Base where
  F : Hp
  H : Hp
  /-- the def's own self -/
  me : Addr := 0
def TabOk (T : List Addr) (F H : Hp) : Prop := ∀ P ∈ T, F P = none ∧ ∃ ps : Array Value, H P = some (.tbl ps) ∧ TriplesOk ps.toList
theorem TabOk.grow {T : List Addr} {F H F' H' : Hp} (h : TabOk T F H) (g : Grow F H F' H') : TabOk T F' H' := fun P hP => by
  obtain ⟨f0, ps, hp, t⟩ := h P hP
  obtain ⟨ps', hp', t'⟩ := g.hh.tb P ps hp
  exact ⟨g.stillFree f0 hp, ps', hp', t' t⟩
theorem TabOk.to {T : List Addr} {F H F' H' : Hp} (h : TabOk T F H) (hf : ∀ P ps, F P = none → H P = some (.tbl ps) → F' P = none ∧ H' P = H P) : TabOk T F' H' := fun P hP => by
  obtain ⟨f0, ps, hp, t⟩ := h P hP
  obtain ⟨a, b⟩ := hf P ps f0 hp
  exact ⟨a, ps, b.trans hp, t⟩
/-- tables, instances and their own lists keep apart -/
structure Rg (ca : CA) (B : Base) (F : Hp) (env : VEnv) (σ : L2.St) (H : Hp) : Prop where
  tb : TabOk ca.T F H
  o1 : ∀ (i j : Nat) (p q : Addr) (me : Bool) (x : Str) (fs : List (Str × FV)) (r : RV), env[i]? = some (some (.ob me x fs)) → σ[i]? = some (some (.ref p)) → q ∈ fla H p fs → env[j]? = some (some r) → r.own = true → σ[j]? ≠ some (some (.ref q))
  o2 : ∀ (i j : Nat) (p p' q : Addr) (me me' : Bool) (x x' : Str) (fs fs' : List (Str × FV)), i ≠ j → env[i]? = some (some (.ob me x fs)) → σ[i]? = some (some (.ref p)) → env[j]? = some (some (.ob me' x' fs')) → σ[j]? = some (some (.ref p')) → q ∈ fla H p fs → q ∉ fla H p' fs'
  o3 : ∀ (i : Nat) (p q : Addr) (x : Str) (fs : List (Str × FV)), env[i]? = some (some (.bo x fs)) → σ[i]? = some (some (.ref p)) → q ∈ fla H p fs → ∃ o, B.H q = some o
  me : ∀ (i : Nat) (x : Str) (fs : List (Str × FV)), env[i]? = some (some (.ob true x fs)) → σ[i]? = some (some (.ref B.me))
structure StOk (K : PySem.W.Frag) (ca : CA) (B : Base) (F : Hp) (env : VEnv) (σ : L2.St) (H : Hp) : Prop where
  gr : Grow B.F B.H F H
  len : env.length = σ.length
  sl : ∀ (i : Nat) (r : RV), env[i]? = some (some r) → ∃ v, σ[i]? = some (some v) ∧ RVok K B.H F H v r
  bo : ∀ (i : Nat) (r : RV) (p : Addr), env[i]? = some (some r) → r.isB = true → σ[i]? = some (some (.ref p)) → ∃ o, B.H p = some o
  dis : ∀ (i j : Nat) (r r' : RV) (p : Addr), i ≠ j → env[i]? = some (some r) → env[j]? = some (some r') → r.own = true → r'.own = true → σ[i]? = some (some (.ref p)) → σ[j]? ≠ some (some (.ref p))
  rg : Rg ca B F env σ H
/-- the address of a slot's instance -/
theorem StOk.obAt {K : PySem.W.Frag} {B : Base} {F H : Hp} {env : VEnv} {σ : L2.St} (s : StOk K ca B F env σ H) {i : Nat} {p : Addr} {me : Bool} {x : Str} {fs : List (Str × FV)} (e : env[i]? = some (some (.ob me x fs))) (z : σ[i]? = some (some (.ref p))) : ObOk K B.H F H p x fs := by
  obtain ⟨v, e1, p', ev, h⟩ := s.sl i _ e
  rw [z] at e1
  subst ev
  cases e1
  exact h
theorem StOk.boAt {K : PySem.W.Frag} {B : Base} {F H : Hp} {env : VEnv} {σ : L2.St} (s : StOk K ca B F env σ H) {i : Nat} {p : Addr} {x : Str} {fs : List (Str × FV)} (e : env[i]? = some (some (.bo x fs))) (z : σ[i]? = some (some (.ref p))) : BoOk K F H p x fs := by
  obtain ⟨v, e1, p', ev, h⟩ := s.sl i _ e
  rw [z] at e1
  subst ev
  cases e1
  exact h
/-- another heap in which the instances stand as they stood -/
theorem StOk.rgTo {K : PySem.W.Frag} {B : Base} {F H F' H' : Hp} {env : VEnv} {σ : L2.St} (s : StOk K ca B F env σ H) (tb : TabOk ca.T F' H') (hp : ∀ (i : Nat) (p C dx : Addr) (vs : List (Str × V)) (r : RV), env[i]? = some (some r) → σ[i]? = some (some (.ref p)) → (r.own = true ∨ r.isB = true) → H p = some (.ins C dx vs) → H' p = H p) : Rg ca B F' env σ H' := by
  have eo : ∀ {i : Nat} {p : Addr} {me : Bool} {x : Str} {fs : List (Str × FV)}, env[i]? = some (some (.ob me x fs)) → σ[i]? = some (some (.ref p)) → fla H' p fs = fla H p fs := fun e z => by
    obtain ⟨C, dx, vs, hi⟩ := (s.obAt e z).ins
    unfold fla
    rw [hp _ _ _ _ _ _ e z (.inl rfl) hi]
  have eb : ∀ {i : Nat} {p : Addr} {x : Str} {fs : List (Str × FV)}, env[i]? = some (some (.bo x fs)) → σ[i]? = some (some (.ref p)) → fla H' p fs = fla H p fs := fun e z => by
    obtain ⟨C, dx, vs, hi⟩ := (s.boAt e z).ins
    unfold fla
    rw [hp _ _ _ _ _ _ e z (.inr rfl) hi]
  exact ⟨tb, fun i j p q me x fs r e z hq => s.rg.o1 i j p q me x fs r e z (by rw [← eo e z]; exact hq),
    fun i j p p' q me me' x x' fs fs' ij e z e' z' hq hq' => s.rg.o2 i j p p' q me me' x x' fs fs' ij e z e' z' (by rw [← eo e z]; exact hq) (by rw [← eo e' z']; exact hq'),
    fun i p q x fs e z hq => s.rg.o3 i p q x fs e z (by rw [← eb e z]; exact hq), s.rg.me⟩
theorem StOk.rgGrow {K : PySem.W.Frag} {B : Base} {F H F' H' : Hp} {env : VEnv} {σ : L2.St} (s : StOk K ca B F env σ H) (g : Grow F H F' H') : Rg ca B F' env σ H' :=
  s.rgTo (s.rg.tb.grow g) fun _ _ _ _ _ _ _ _ _ h => (g.hh _ _ h).trans h.symm
theorem StOk.grow {K : PySem.W.Frag} {B : Base} {F H F' H' : Hp} {env : VEnv} {σ : L2.St} (s : StOk K ca B F env σ H) (g : Grow F H F' H') : StOk K ca B F' env σ H' :=
  ⟨s.gr.trans g, s.len, fun i r e => by
    obtain ⟨v, e1, h⟩ := s.sl i r e
    exact ⟨v, e1, h.grow g⟩, s.bo, s.dis, s.rgGrow g⟩
theorem StOk.cfg {K : PySem.W.Frag} {B : Base} {F H : Hp} {env : VEnv} {σ : L2.St} (s : StOk K ca B F env σ H) : Cfg F H := s.gr.cfg

/-! ## expressions -/
section
variable (K : PySem.W.Frag) (ca : CA)
def ExOk (F H : Hp) (cls : Value) (dx : Option Addr) (c : Nat) (fs : List (Str × PyData)) : Prop :=
  cls = .ref (ca c) ∧ ∃ dd xs, dx = some dd ∧ H dd = some (.xd xs) ∧ KD K F xs fs
def PostX (W : WX) (σ : L2.St) (F H : Hp) (c : Nat) (fs : List (Str × PyData)) : Prop :=
  ∀ F' H' cls dx, Grow F H F' H' → ExOk K ca F' H' cls dx c fs → W cls dx σ H'
def PostE (W : WX) (σ : L2.St) (F H : Hp) (Q : VK) : Rs RV → Prop
  | .ok r => ∀ F' H' v, Grow F H F' H' → RVok K H F' H' v r → Q v H'
  | .ex c fs => PostX K ca W σ F H c fs
  | .no => False
def PostB (W : WX) (σ : L2.St) (F H : Hp) (Q : Bool → Hp → Prop) : Rs Bool → Prop
  | .ok b => ∀ F' H', Grow F H F' H' → Q b H'
  | .ex c fs => PostX K ca W σ F H c fs
  | .no => False
def PostA (W : WX) (σ : L2.St) (F H : Hp) (Q : List V → Hp → Prop) : Rs (List RV) → Prop
  | .ok rs => ∀ F' H' vs, Grow F H F' H' → Paired (fun v r => RVok K H F' H' v r) vs rs → Q vs H'
  | .ex c fs => PostX K ca W σ F H c fs
  | .no => False
def SndE (W : WX) (t : TE) (f : VEnv → Rs RV) : Prop := ∀ B F env σ H Q, StOk K ca B F env σ H → PostE K ca W σ F H Q (f env) → t σ H Q
def SndT (W : WX) (t : TT) (f : VEnv → Rs Bool) : Prop := ∀ B F env σ H Q, StOk K ca B F env σ H → PostB K ca W σ F H Q (f env) → t σ H Q
def SndA (W : WX) (t : TA) (f : VEnv → Rs (List RV)) : Prop := ∀ B F env σ H Q, StOk K ca B F env σ H → PostA K ca W σ F H Q (f env) → t σ H Q
end
section
variable {K : PySem.W.Frag} {ca : CA} {W : WX} {B : Base} {F H F1 H1 : Hp} {env : VEnv} {σ : L2.St}
theorem PostX.mono {c : Nat} {fs : List (Str × PyData)} (g : Grow F H F1 H1) (h : PostX K ca W σ F H c fs) : PostX K ca W σ F1 H1 c fs :=
  fun F' H' cls dx g' e => h F' H' cls dx (g.trans g') e
theorem PostE.mono {Q : VK} {m : Rs RV} (g : Grow F H F1 H1) (h : PostE K ca W σ F H Q m) : PostE K ca W σ F1 H1 Q m := by
  cases m with
  | ok r => exact fun F' H' v g' e => h F' H' v (g.trans g') (e.older g.hh)
  | ex c fs => exact PostX.mono g h
  | no => exact h
theorem PostB.mono {Q : Bool → Hp → Prop} {m : Rs Bool} (g : Grow F H F1 H1) (h : PostB K ca W σ F H Q m) : PostB K ca W σ F1 H1 Q m := by
  cases m with
  | ok r => exact fun F' H' g' => h F' H' (g.trans g')
  | ex c fs => exact PostX.mono g h
  | no => exact h
theorem paired_older {K : PySem.W.Frag} {H0 H1 F H : Hp} (e : SameN H0 H1) {vs : List V} {rs : List RV} (h : Paired (fun v r => RVok K H1 F H v r) vs rs) : Paired (fun v r => RVok K H0 F H v r) vs rs :=
  Paired.mapP h fun _ _ z => z.older e
theorem paired_grow {K : PySem.W.Frag} {H0 F H F' H' : Hp} (g : Grow F H F' H') {vs : List V} {rs : List RV} (h : Paired (fun v r => RVok K H0 F H v r) vs rs) : Paired (fun v r => RVok K H0 F' H' v r) vs rs :=
  Paired.mapP h fun _ _ z => z.grow g
theorem PostA.mono {Q : List V → Hp → Prop} {m : Rs (List RV)} (g : Grow F H F1 H1) (h : PostA K ca W σ F H Q m) : PostA K ca W σ F1 H1 Q m := by
  cases m with
  | ok r => exact fun F' H' v g' e => h F' H' v (g.trans g') (paired_older g.hh e)
  | ex c fs => exact PostX.mono g h
  | no => exact h
/-- one part, then what hangs on it -/
theorem seqE {t : TE} {f : VEnv → Rs RV} {Q : VK} {α : Type} {k : RV → Rs α} (P : Rs α → Prop) (s : SndE K ca W t f) (st : StOk K ca B F env σ H)
    (post : P ((f env).bind k)) (hx : ∀ c fs, P (.ex c fs) → PostX K ca W σ F H c fs) (hn : ¬ P .no)
    (h : ∀ r F1 H1 v, P (k r) → Grow F H F1 H1 → RVok K H F1 H1 v r → Q v H1) : t σ H Q := by
  refine s B F env σ H Q st ?_
  cases e : f env with
  | ok r => rw [e] at post; exact fun F' H' v g q => h r F' H' v post g q
  | ex c fs => rw [e] at post; exact hx c fs post
  | no => rw [e] at post; exact hn post
theorem seqT {t : TT} {f : VEnv → Rs Bool} {Q : Bool → Hp → Prop} {α : Type} {k : Bool → Rs α} (P : Rs α → Prop) (s : SndT K ca W t f) (st : StOk K ca B F env σ H)
    (post : P ((f env).bind k)) (hx : ∀ c fs, P (.ex c fs) → PostX K ca W σ F H c fs) (hn : ¬ P .no)
    (h : ∀ r F1 H1, P (k r) → Grow F H F1 H1 → Q r H1) : t σ H Q := by
  refine s B F env σ H Q st ?_
  cases e : f env with
  | ok r => rw [e] at post; exact fun F' H' g => h r F' H' post g
  | ex c fs => rw [e] at post; exact hx c fs post
  | no => rw [e] at post; exact hn post
theorem seqA {t : TA} {f : VEnv → Rs (List RV)} {Q : List V → Hp → Prop} {α : Type} {k : List RV → Rs α} (P : Rs α → Prop) (s : SndA K ca W t f) (st : StOk K ca B F env σ H)
    (post : P ((f env).bind k)) (hx : ∀ c fs, P (.ex c fs) → PostX K ca W σ F H c fs) (hn : ¬ P .no)
    (h : ∀ r F1 H1 vs, P (k r) → Grow F H F1 H1 → Paired (fun v r => RVok K H F1 H1 v r) vs r → Q vs H1) : t σ H Q := by
  refine s B F env σ H Q st ?_
  cases e : f env with
  | ok r => rw [e] at post; exact fun F' H' v g q => h r F' H' v post g q
  | ex c fs => rw [e] at post; exact hx c fs post
  | no => rw [e] at post; exact hn post
end

structure VE (ca : CA) (W : WX) (X : Cx) (e : Expr) (f : VEnv → Rs RV) : Prop where
  ex : ∃ t, PE X e t ∧ SndE X.K ca W t f
structure VT (ca : CA) (W : WX) (X : Cx) (e : Expr) (f : VEnv → Rs Bool) : Prop where
  ex : ∃ t, PT X e t ∧ SndT X.K ca W t f
structure VW (ca : CA) (W : WX) (X : Cx) (e : Expr) (f : VEnv → Rs Bool) : Prop where
  ex : ∃ t, PW X e t ∧ SndT X.K ca W t f
structure VA (ca : CA) (W : WX) (X : Cx) (es : List Expr) (f : VEnv → Rs (List RV)) : Prop where
  ex : ∃ t, PA X es t ∧ SndA X.K ca W t f

section
variable {ca : CA} {W : WX} {X : Cx} {a b e : Expr} {es : List Expr} {fa fb : VEnv → Rs RV} {pos : Pos}
/-! ### names and constants -/
def cC (x : PyData) : VEnv → Rs RV := fun _ => .ok (.d x)
theorem ve_int {i j pos} : VE ca W X (.Constant (.int i) j pos) (cC (.int i)) := ⟨_, pe_int, fun _ _ _ _ _ _ st p => p _ _ _ (Grow.refl st.cfg) (.int i)⟩
theorem ve_bl {b j pos} : VE ca W X (.Constant (.bool b) j pos) (cC (.bool b)) := ⟨_, pe_bl, fun _ _ _ _ _ _ st p => p _ _ _ (Grow.refl st.cfg) (.bl b)⟩
theorem ve_non {j pos} : VE ca W X (.Constant .none j pos) (cC .none) := ⟨_, pe_non, fun _ _ _ _ _ _ st p => p _ _ _ (Grow.refl st.cfg) .non⟩
theorem ve_str {x j pos} : VE ca W X (.Constant (.str x) j pos) (cC (.str x)) := ⟨_, pe_str, fun _ _ _ _ _ _ st p => p _ _ _ (Grow.refl st.cfg) (.str x)⟩
/-- a name: borrowed where the slot's list or dict is of its own -/
def cV (i : Nat) : VEnv → Rs RV := fun env => match env[i]? with
  | some (some r) => .ok r.bor
  | _ => .no
theorem snd_var {K : PySem.W.Frag} {i : Nat} : SndE K ca W (tVar i) (cV i) := by
  intro B F env σ H Q st p
  unfold cV at p
  split at p
  · rename_i r e
    obtain ⟨v, e1, h⟩ := st.sl i r e
    refine ⟨v, e1, p F H v (Grow.refl st.cfg) ?_⟩
    cases r with
    | ol xs => exact h.bor
    | od xs => exact h.bor
    | ot xs => exact h.bor
    | ob me x fs => exact h.bor
    | _ => exact h
  · exact p.elim
theorem vv (i : Nat) {x : Str} {pos : Pos} (hN : X.N[i]? = some x := by rfl) (hv : Vis X.env.scope x := by first | exact Or.inl rfl | exact Or.inr (Or.inl rfl) | exact Or.inr (Or.inr rfl)) (hd : (x == ("__debug__" : Str)) = false := by decide)
    (hcd : (x == ("__classdict__" : Str)) = false := by decide) : VE ca W X (.Name x pos) (cV i) := ⟨_, pe_var hN hv hd hcd, snd_var⟩
/-- a constant of the module: an int, a text -/
theorem ve_gint {x : Str} {i : Int} {t : Tok} {pos : Pos} (hg : Gl X x) (hm : X.mg x = some (.int i t)) (hd : (x == ("__debug__" : Str)) = false := by decide) : VE ca W X (.Name x pos) (cC (.int i)) :=
  ⟨_, pe_glob hg hm (v := .int i) ⟨t, rfl⟩ hd, fun _ _ _ _ _ _ st p => p _ _ _ (Grow.refl st.cfg) (.int i)⟩
theorem ve_gstr {x y : Str} {t : Tok} {pos : Pos} (hg : Gl X x) (hm : X.mg x = some (.str y t)) (hd : (x == ("__debug__" : Str)) = false := by decide) : VE ca W X (.Name x pos) (cC (.str y)) :=
  ⟨_, pe_glob hg hm (v := .str y) ⟨t, rfl⟩ hd, fun _ _ _ _ _ _ st p => p _ _ _ (Grow.refl st.cfg) (.str y)⟩

/-! ### operators by their values -/
def Op2S (K : PySem.W.Frag) (ca : CA) (r : R2) (g : RV → RV → Rs RV) : Prop := ∀ (W : WX) σ F0 H0 F H v1 v2 a b Q, Grow F0 H0 F H → RVok K H0 F H v1 a → RVok K H0 F H v2 b → PostE K ca W σ F0 H0 Q (g a b) → r v1 v2 H Q
def Op1S (K : PySem.W.Frag) (ca : CA) (r : V → Hp → VK → Prop) (g : RV → Rs RV) : Prop := ∀ (W : WX) σ F0 H0 F H v a Q, Grow F0 H0 F H → RVok K H0 F H v a → PostE K ca W σ F0 H0 Q (g a) → r v H Q
def CaS (K : PySem.W.Frag) (ca : CA) (r : List V → Hp → VK → Prop) (g : List RV → Rs RV) : Prop := ∀ (W : WX) σ F0 H0 F H vs as Q, Grow F0 H0 F H → Paired (fun v a => RVok K H0 F H v a) vs as → PostE K ca W σ F0 H0 Q (g as) → r vs H Q
def c2 (g : RV → RV → Rs RV) (fa fb : VEnv → Rs RV) : VEnv → Rs RV := fun env => (fa env).bind fun x => (fb env).bind fun y => g x y
def c1 (g : RV → Rs RV) (fa : VEnv → Rs RV) : VEnv → Rs RV := fun env => (fa env).bind g
theorem snd_op2 {K : PySem.W.Frag} {r : R2} {g : RV → RV → Rs RV} {ta tb : TE} (hr : Op2S K ca r g) (sa : SndE K ca W ta fa) (sb : SndE K ca W tb fb) : SndE K ca W (tOp r ta tb) (c2 g fa fb) := by
  intro B F env σ H Q st p
  show ta σ H fun x H1 => tb σ H1 fun y H2 => r x y H2 Q
  refine seqE (PostE K ca W σ F H Q) sa st p (fun _ _ h => h) (fun h => h) fun x F1 H1 v1 p1 g1 q1 => ?_
  refine seqE (PostE K ca W σ F H Q) sb (st.grow g1) p1 (fun _ _ h => PostX.mono g1 h) (fun h => h) fun y F2 H2 v2 p2 g2 q2 => ?_
  exact hr W σ F H F2 H2 v1 v2 x y Q (g1.trans g2) (q1.grow g2) (q2.older g1.hh) p2
theorem snd_op1 {K : PySem.W.Frag} {r : V → Hp → VK → Prop} {g : RV → Rs RV} {ta : TE} (hr : Op1S K ca r g) (sa : SndE K ca W ta fa) : SndE K ca W (tUn r ta) (c1 g fa) := by
  intro B F env σ H Q st p
  show ta σ H fun x H1 => r x H1 Q
  refine seqE (PostE K ca W σ F H Q) sa st p (fun _ _ h => h) (fun h => h) fun x F1 H1 v1 p1 g1 q1 => ?_
  exact hr W σ F H F1 H1 v1 x Q g1 q1 p1
theorem ve_op {op : Operator} {r : R2} {g : RV → RV → Rs RV} (ho : OpR X (binaryOp op) r) (hr : Op2S X.K ca r g) (ha : VE ca W X a fa) (hb : VE ca W X b fb) : VE ca W X (.BinOp a op b pos) (c2 g fa fb) := by
  obtain ⟨ta, pa, sa⟩ := ha
  obtain ⟨tb, pb, sb⟩ := hb
  exact ⟨_, pe_op ho pa pb, snd_op2 hr sa sb⟩
theorem ve_un {op : UnaryOp} {r : V → Hp → VK → Prop} {g : RV → Rs RV} (ho : UnR X (unaryOp op) r) (hr : Op1S X.K ca r g) (ha : VE ca W X a fa) : VE ca W X (.UnaryOp op a pos) (c1 g fa) := by
  obtain ⟨ta, pa, sa⟩ := ha
  exact ⟨_, pe_un ho pa, snd_op1 hr sa⟩
theorem ve_ix {r : R2} {g : RV → RV → Rs RV} (ho : IxR X r) (hr : Op2S X.K ca r g) (ha : VE ca W X a fa) (hb : VE ca W X b fb) (hs : PlainIx b) : VE ca W X (.Subscript a b pos) (c2 g fa fb) := by
  obtain ⟨ta, pa, sa⟩ := ha
  obtain ⟨tb, pb, sb⟩ := hb
  exact ⟨_, pe_ix ho pa pb hs, snd_op2 hr sa sb⟩
end
end VL

namespace VL
open PySem PySem.Spec PyProof.Rows L2

/-! ## freezing -/
def RV.toD : RV → Option PyData
  | .d x => some x
  | .ol xs => some (.list xs)
  | _ => none
def allD : List RV → Option (List PyData)
  | [] => some []
  | r :: rs => r.toD.bind fun d => (allD rs).bind fun ds => some (d :: ds)
theorem allD_len : ∀ {rs : List RV} {ds : List PyData}, allD rs = some ds → ds.length = rs.length
  | [], ds, h => by simp [allD] at h; subst h; rfl
  | r :: rs, ds, h => by
    unfold allD at h
    cases e : r.toD with
    | none => rw [e] at h; simp at h
    | some d =>
      cases e2 : allD rs with
      | none => rw [e, e2] at h; simp at h
      | some es => rw [e, e2] at h; simp at h; subst h; simp [allD_len e2]
def Fz (K : PySem.W.Frag) (H0 F H : Hp) (v : V) (d : PyData) : Prop := Dq K F v d ∨ ∃ p ws xs, v = .ref p ∧ d = .list xs ∧ H0 p = none ∧ H p = some (.lst ws) ∧ DqA K F ws xs
theorem Fz.of {K : PySem.W.Frag} {H0 F H : Hp} {v : V} {r : RV} {d : PyData} (h : RVok K H0 F H v r) (e : r.toD = some d) : Fz K H0 F H v d := by
  cases r with
  | d x => cases e; exact .inl h
  | ol xs => cases e; obtain ⟨p, vs, e1, n0, f, hp, q⟩ := h; exact .inr ⟨p, vs, xs, e1, rfl, n0, hp, q⟩
  | _ => cases e
theorem Fz.ofs {K : PySem.W.Frag} {H0 F H : Hp} : ∀ {rs : List RV} {vs : List V} {ds : List PyData}, Paired (fun v r => RVok K H0 F H v r) vs rs → allD rs = some ds → Paired (fun v d => Fz K H0 F H v d) vs ds
  | [], _, ds, h, e => by cases h; simp [allD] at e; subst e; exact .nil
  | r :: rs, _, ds, h, e => by
    cases h with
    | cons h1 h2 =>
      unfold allD at e
      cases e1 : r.toD with
      | none => rw [e1] at e; simp at e
      | some d =>
        cases e2 : allD rs with
        | none => rw [e1, e2] at e; simp at e
        | some es => rw [e1, e2] at e; simp at e; subst e; exact .cons (Fz.of h1 e1) (Fz.ofs h2 e2)
theorem Fz.mono {K : PySem.W.Frag} {H0 F F' H : Hp} (e : Same F F') {v : V} {d : PyData} (h : Fz K H0 F H v d) : Fz K H0 F' H v d := by
  rcases h with h | ⟨p, ws, xs, e1, e2, n0, hp, q⟩
  · exact .inl (h.mono e)
  · exact .inr ⟨p, ws, xs, e1, e2, n0, hp, DqA.mono e _ _ q⟩
theorem frz {K : PySem.W.Frag} {F0 H0 F H : Hp} (g : Grow F0 H0 F H) {v : V} {d : PyData} (h : Fz K H0 F H v d) : ∃ F', Grow F0 H0 F' H ∧ Same F F' ∧ Dq K F' v d := by
  rcases h with h | ⟨p, ws, xs, rfl, rfl, n0, hp, q⟩
  · exact ⟨F, g, Same.refl _, h⟩
  · cases e : F p with
    | none =>
      have s : Same F (upd F p (.lst ws)) := fun b u k => by rw [upd_ne (ne_of_none k e)]; exact k
      exact ⟨_, g.freeze n0 e hp, s, .lst upd_same (DqA.mono s _ _ q)⟩
    | some o =>
      have := g.cfg.sub _ _ e
      rw [hp] at this
      cases this
      exact ⟨F, g, Same.refl _, .lst e q⟩
theorem frzs {K : PySem.W.Frag} {F0 H0 H : Hp} : ∀ {F : Hp} {vs : List V} {ds : List PyData}, Grow F0 H0 F H → Paired (fun v d => Fz K H0 F H v d) vs ds → ∃ F', Grow F0 H0 F' H ∧ Same F F' ∧ DqA K F' vs ds
  | F, _, _, g, .nil => ⟨F, g, Same.refl _, .nil⟩
  | F, _, _, g, .cons h1 h2 => by
    obtain ⟨F1, g1, s1, q1⟩ := frz g h1
    obtain ⟨F2, g2, s2, q2⟩ := frzs g1 (Paired.mapP h2 fun _ _ z => z.mono s1)
    exact ⟨F2, g2, s1.trans s2, .cons (q1.mono s2) q2⟩

section
variable {ca : CA} {W : WX} {X : Cx} {a b e : Expr} {es : List Expr} {fa fb : VEnv → Rs RV} {pos : Pos}
/-! ## argument lists, displays -/
def aN : VEnv → Rs (List RV) := fun _ => .ok []
def aC (f : VEnv → Rs RV) (g : VEnv → Rs (List RV)) : VEnv → Rs (List RV) := fun env => (f env).bind fun x => (g env).bind fun xs => .ok (x :: xs)
theorem va_nil : VA ca W X [] aN := ⟨_, pa_nil, fun _ _ _ _ _ _ st p => p _ _ _ (Grow.refl st.cfg) .nil⟩
theorem va_cons {f : VEnv → Rs RV} {g : VEnv → Rs (List RV)} (he : VE ca W X e f) (hr : VA ca W X es g) (hs : starEach (e :: es) X.env = (false, eval e X.env) :: starEach es X.env := by rfl) : VA ca W X (e :: es) (aC f g) := by
  obtain ⟨te, pe, se⟩ := he
  obtain ⟨tr, pr, sr⟩ := hr
  refine ⟨_, pa_cons pe pr hs, fun B F env σ H Q st p => ?_⟩
  show te σ H fun x H1 => tr σ H1 fun xs H2 => Q (x :: xs) H2
  refine seqE (PostA X.K ca W σ F H Q) se st p (fun _ _ h => h) (fun h => h) fun x F1 H1 v1 p1 g1 q1 => ?_
  refine seqA (PostA X.K ca W σ F H Q) sr (st.grow g1) p1 (fun _ _ h => PostX.mono g1 h) (fun h => h) fun xs F2 H2 vs p2 g2 q2 => ?_
  exact p2 F2 H2 (v1 :: vs) (g1.trans g2) (.cons (q1.grow g2) (paired_older g1.hh q2))
def rsO {α : Type} : Option α → Rs α
  | some a => .ok a
  | none => .no
@[simp] theorem rsO_some {α : Type} (a : α) : rsO (some a) = .ok a := rfl
@[simp] theorem rsO_none {α : Type} : rsO (none : Option α) = .no := rfl
def gTupl (rs : List RV) : Rs RV := (rsO (allD rs)).bind fun ds => if ds.length ≤ 1000 then .ok (.d (.tuple ds)) else .no
def gList (rs : List RV) : Rs RV := (rsO (allD rs)).bind fun ds => if ds.length ≤ 1000 then .ok (.ol ds) else .no
def cA (g : List RV → Rs RV) (f : VEnv → Rs (List RV)) : VEnv → Rs RV := fun env => (f env).bind g
theorem small_line {n : Nat} (h : n ≤ 1000) : n ≤ sizeLine := Nat.le_of_lt (small1000 h)
def tTupN (t : TA) : TE := fun σ H Q => t σ H fun xs H1 => xs.length ≤ sizeLine ∧ ∀ (o : Obj) p, o.dict = none → H1 p = none → Q (.ref p) (upd H1 p (.frz o (.tup xs)))
theorem pe_tupN {X : Cx} {es : List Expr} {x1} {pos : Pos} {t : TA} (ha : PA X es t) : PE X (.Tuple es x1 pos) (tTupN t) := by
  constructor
  intro pins s σ H Q I q0
  refine wpAny_Tuple_spliced (thn (ha.run pos pins s σ H _ I q0) fun us s2 ⟨xs, H2, I2, rv, hz, q2⟩ => ⟨by rw [← rv.length]; exact hz, ?_⟩)
  have nn : H2 s2.heap.objs.size = none := I2.hok.fresh (Nat.le_refl _)
  refine ⟨.ref s2.heap.objs.size, upd H2 s2.heap.objs.size (.frz { cls := .type "tuple", data := .seq us.toArray } (.tup xs)), I2.laid (t' := s2.toks) (fun _ _ e => Heap.get?_push_of_some _ e) (Nat.le_refl _) ?_, rfl, q2 _ _ rfl nn⟩
  exact ⟨Heap.get?_push_size _ rfl, hz, us, rv, ⟨_, Heap.get?_push_size _ rfl, rfl, _, rfl⟩⟩
theorem ve_tup {x1} {f : VEnv → Rs (List RV)} (h : VA ca W X es f) : VE ca W X (.Tuple es x1 pos) (cA gTupl f) := by
  obtain ⟨t, pa, sa⟩ := h
  refine ⟨_, pe_tupN pa, fun B F env σ H Q st p => ?_⟩
  show t σ H fun xs H1 => xs.length ≤ sizeLine ∧ ∀ (o : Obj) p, o.dict = none → H1 p = none → Q (.ref p) (upd H1 p (.frz o (.tup xs)))
  refine seqA (PostE X.K ca W σ F H Q) sa st p (fun _ _ h => h) (fun h => h) fun rs F1 H1 vs p1 g1 q1 => ?_
  unfold gTupl at p1
  cases e : allD rs with
  | none => rw [e] at p1; exact p1.elim
  | some ds =>
    rw [e] at p1
    simp only [rsO_some, Rs.bind_ok] at p1
    split at p1
    · rename_i hz
      obtain ⟨F2, g2, s2, q2⟩ := frzs g1 (Fz.ofs q1 e)
      refine ⟨by rw [q2.length]; exact small_line hz, fun o a no n => ?_⟩
      have g3 := Grow.newF g2.cfg (.frz o (.tup vs)) n
      exact p1 _ _ _ (g2.trans g3) (.tup (.frz no upd_same) (DqA.mono g3.ff _ _ q2))
    · exact p1.elim
theorem ve_lst {f : VEnv → Rs (List RV)} (h : VA ca W X es f) : VE ca W X (.List es pos) (cA gList f) := by
  obtain ⟨t, pa, sa⟩ := h
  refine ⟨_, pe_lst pa, fun B F env σ H Q st p => ?_⟩
  show t σ H fun xs H1 => xs.length ≤ sizeLine ∧ ∀ p, H1 p = none → Q (.ref p) (upd H1 p (.lst xs))
  refine seqA (PostE X.K ca W σ F H Q) sa st p (fun _ _ h => h) (fun h => h) fun rs F1 H1 vs p1 g1 q1 => ?_
  unfold gList at p1
  cases e : allD rs with
  | none => rw [e] at p1; exact p1.elim
  | some ds =>
    rw [e] at p1
    simp only [rsO_some, Rs.bind_ok] at p1
    split at p1
    · rename_i hz
      obtain ⟨F2, g2, s2, q2⟩ := frzs g1 (Fz.ofs q1 e)
      refine ⟨by rw [q2.length]; exact small_line hz, fun a n => ?_⟩
      have g3 := Grow.newO g2.cfg (.lst vs) n (fun _ z => by cases z)
      exact p1 _ _ _ (g2.trans g3) ⟨a, vs, rfl, none_n g2.hh n, same_none g2.cfg.sub n, upd_same, q2⟩
    · exact p1.elim

/-! ## comparisons and tests -/
theorem ve_cmp {op : CmpOp} {r : R2} {g : RV → RV → Rs RV} (ho : OpR X (compareOp op) r) (hr : Op2S X.K ca r g) (ha : VE ca W X a fa) (hb : VE ca W X b fb) (hm : behindInMarks op b = false) : VE ca W X (.Compare a [op] [b] pos) (c2 g fa fb) := by
  obtain ⟨ta, pa, sa⟩ := ha
  obtain ⟨tb, pb, sb⟩ := hb
  exact ⟨_, pe_cmpR ho pa pb hm, snd_op2 hr sa sb⟩
/-- a value that is True or False -/
def asB : RV → Rs Bool
  | .d (.bool b) => .ok b
  | _ => .no
def cB (f : VEnv → Rs RV) : VEnv → Rs Bool := fun env => (f env).bind asB
theorem snd_test {K : PySem.W.Frag} {t : TE} {f : VEnv → Rs RV} (s : SndE K ca W t f) : SndT K ca W (tTest t) (cB f) := by
  intro B F env σ H Q st p
  show t σ H fun x H' => ∃ k, x = .bl k ∧ Q k H'
  refine seqE (PostB K ca W σ F H Q) s st p (fun _ _ h => h) (fun h => h) fun x F1 H1 v1 p1 g1 q1 => ?_
  unfold asB at p1
  split at p1
  · rename_i k
    cases q1
    exact ⟨k, rfl, p1 _ _ g1⟩
  · exact p1.elim
theorem vt_cmp {op : CmpOp} {r : R2} {g : RV → RV → Rs RV} (ho : OpR X (compareOp op) r) (hr : Op2S X.K ca r g) (ha : VE ca W X a fa) (hb : VE ca W X b fb) (hm : behindInMarks op b = false) : VT ca W X (.Compare a [op] [b] pos) (cB (c2 g fa fb)) := by
  obtain ⟨ta, pa, sa⟩ := ha
  obtain ⟨tb, pb, sb⟩ := hb
  exact ⟨_, pt_cmpR ho pa pb hm, snd_test (snd_op2 hr sa sb)⟩
theorem vt_val {f : VEnv → Rs RV} (h : VE ca W X e f) (he : ∀ whole, isTrue e X.env whole = (do let v ← whole; standAt e.pos; holding [v] (truthy v)) := by intro _; rfl) : VT ca W X e (cB f) := by
  obtain ⟨t, pe, se⟩ := h
  exact ⟨_, pt_val pe he, snd_test se⟩
def bNot (f : VEnv → Rs Bool) : VEnv → Rs Bool := fun env => (f env).bind fun b => .ok (!b)
def bAnd (f g : VEnv → Rs Bool) : VEnv → Rs Bool := fun env => (f env).bind fun b => if b = true then g env else .ok false
def bOr (f g : VEnv → Rs Bool) : VEnv → Rs Bool := fun env => (f env).bind fun b => if b = true then .ok true else g env
theorem vt_not {f : VEnv → Rs Bool} (h : VT ca W X a f) : VT ca W X (.UnaryOp .Not a pos) (bNot f) := by
  obtain ⟨t, pe, se⟩ := h
  refine ⟨_, pt_not pe, fun B F env σ H Q st p => ?_⟩
  show t σ H fun c H1 => Q (!c) H1
  exact seqT (PostB X.K ca W σ F H Q) se st p (fun _ _ h => h) (fun h => h) fun x F1 H1 p1 g1 => p1 _ _ g1
theorem vw_and1 {f : VEnv → Rs Bool} (h : VT ca W X a f) : VW ca W X (.BoolOp .And [a] pos) f := by
  obtain ⟨t, pe, se⟩ := h
  exact ⟨_, pw_and1 pe, se⟩
theorem vw_or1 {f : VEnv → Rs Bool} (h : VT ca W X a f) : VW ca W X (.BoolOp .Or [a] pos) f := by
  obtain ⟨t, pe, se⟩ := h
  exact ⟨_, pw_or1 pe, se⟩
theorem vw_and {rest : List Expr} {f g : VEnv → Rs Bool} (h : VT ca W X a f) (h2 : VW ca W X (.BoolOp .And (b :: rest) pos) g) : VW ca W X (.BoolOp .And (a :: b :: rest) pos) (bAnd f g) := by
  obtain ⟨t, pe, se⟩ := h
  obtain ⟨u, pu, su⟩ := h2
  refine ⟨_, pw_and pe pu, fun B F env σ H Q st p => ?_⟩
  show t σ H fun c H1 => if c = true then u σ H1 Q else Q false H1
  refine seqT (PostB X.K ca W σ F H Q) se st p (fun _ _ h => h) (fun h => h) fun x F1 H1 p1 g1 => ?_
  cases x with
  | true => rw [if_pos rfl]; rw [if_pos rfl] at p1; exact su B F1 env σ H1 Q (st.grow g1) (PostB.mono g1 p1)
  | false => rw [if_neg Bool.false_ne_true]; rw [if_neg Bool.false_ne_true] at p1; exact p1 _ _ g1
theorem vw_or {rest : List Expr} {f g : VEnv → Rs Bool} (h : VT ca W X a f) (h2 : VW ca W X (.BoolOp .Or (b :: rest) pos) g) : VW ca W X (.BoolOp .Or (a :: b :: rest) pos) (bOr f g) := by
  obtain ⟨t, pe, se⟩ := h
  obtain ⟨u, pu, su⟩ := h2
  refine ⟨_, pw_or pe pu, fun B F env σ H Q st p => ?_⟩
  show t σ H fun c H1 => if c = true then Q true H1 else u σ H1 Q
  refine seqT (PostB X.K ca W σ F H Q) se st p (fun _ _ h => h) (fun h => h) fun x F1 H1 p1 g1 => ?_
  cases x with
  | false => rw [if_neg Bool.false_ne_true]; rw [if_neg Bool.false_ne_true] at p1; exact su B F1 env σ H1 Q (st.grow g1) (PostB.mono g1 p1)
  | true => rw [if_pos rfl]; rw [if_pos rfl] at p1; exact p1 _ _ g1
theorem vw {f : VEnv → Rs Bool} (h : VW ca W X e f) : VT ca W X e f := by
  obtain ⟨t, pe, se⟩ := h
  exact ⟨_, pe.pt, se⟩
/-! and, or, not as values (truth values) -/
def vAnd (f g : VEnv → Rs RV) : VEnv → Rs RV := fun env => (cB f env).bind fun b => if b = true then g env else .ok (.d (.bool false))
def vOr (f g : VEnv → Rs RV) : VEnv → Rs RV := fun env => (cB f env).bind fun b => if b = true then .ok (.d (.bool true)) else g env
def vNot (f : VEnv → Rs RV) : VEnv → Rs RV := fun env => (cB f env).bind fun b => .ok (.d (.bool (!b)))
theorem ve_one {op} {f : VEnv → Rs RV} (h : VE ca W X a f) : VE ca W X (.BoolOp op [a] pos) f := by
  obtain ⟨t, pe, se⟩ := h
  exact ⟨_, pe_one pe, se⟩
theorem seqBE {K : PySem.W.Frag} {B : Base} {F H : Hp} {env : VEnv} {σ : L2.St} {t : TE} {f : VEnv → Rs RV} {Q : VK} {α : Type} {k : Bool → Rs α} (P : Rs α → Prop) (s : SndE K ca W t f) (st : StOk K ca B F env σ H)
    (post : P ((cB f env).bind k)) (hx : ∀ c fs, P (.ex c fs) → PostX K ca W σ F H c fs) (hn : ¬ P .no)
    (h : ∀ r F1 H1, P (k r) → Grow F H F1 H1 → Q (.bl r) H1) : t σ H Q := by
  refine s B F env σ H Q st ?_
  unfold cB at post
  cases e : f env with
  | ok r =>
    rw [e] at post
    intro F' H' v g q
    cases r with
    | d x =>
      cases x with
      | bool b => cases q; exact h b F' H' post g
      | _ => exact absurd post hn
    | _ => exact absurd post hn
  | ex c fs => rw [e] at post; exact hx c fs post
  | no => rw [e] at post; exact hn post
theorem ve_and {rest : List Expr} {f g : VEnv → Rs RV} (h : VE ca W X a f) (h2 : VE ca W X (.BoolOp .And (b :: rest) pos) g) : VE ca W X (.BoolOp .And (a :: b :: rest) pos) (vAnd f g) := by
  obtain ⟨t, pe, se⟩ := h
  obtain ⟨u, pu, su⟩ := h2
  refine ⟨_, pe_and pe pu, fun B F env σ H Q st p => ?_⟩
  show t σ H fun x H1 => ∃ c, x = .bl c ∧ if c = true then u σ H1 Q else Q (.bl false) H1
  refine seqBE (PostE X.K ca W σ F H Q) se st p (fun _ _ h => h) (fun h => h) fun x F1 H1 p1 g1 => ⟨x, rfl, ?_⟩
  cases x with
  | true => rw [if_pos rfl]; rw [if_pos rfl] at p1; exact su B F1 env σ H1 Q (st.grow g1) (PostE.mono g1 p1)
  | false => rw [if_neg Bool.false_ne_true]; rw [if_neg Bool.false_ne_true] at p1; exact p1 _ _ _ g1 (.bl false)
theorem ve_or {rest : List Expr} {f g : VEnv → Rs RV} (h : VE ca W X a f) (h2 : VE ca W X (.BoolOp .Or (b :: rest) pos) g) : VE ca W X (.BoolOp .Or (a :: b :: rest) pos) (vOr f g) := by
  obtain ⟨t, pe, se⟩ := h
  obtain ⟨u, pu, su⟩ := h2
  refine ⟨_, pe_or pe pu, fun B F env σ H Q st p => ?_⟩
  show t σ H fun x H1 => ∃ c, x = .bl c ∧ if c = true then Q (.bl true) H1 else u σ H1 Q
  refine seqBE (PostE X.K ca W σ F H Q) se st p (fun _ _ h => h) (fun h => h) fun x F1 H1 p1 g1 => ⟨x, rfl, ?_⟩
  cases x with
  | false => rw [if_neg Bool.false_ne_true]; rw [if_neg Bool.false_ne_true] at p1; exact su B F1 env σ H1 Q (st.grow g1) (PostE.mono g1 p1)
  | true => rw [if_pos rfl]; rw [if_pos rfl] at p1; exact p1 _ _ _ g1 (.bl true)
theorem ve_not {f : VEnv → Rs RV} (h : VE ca W X a f) : VE ca W X (.UnaryOp .Not a pos) (vNot f) := by
  obtain ⟨t, pe, se⟩ := h
  refine ⟨_, pe_not pe, fun B F env σ H Q st p => ?_⟩
  show t σ H fun x H1 => ∃ c, x = .bl c ∧ Q (.bl (!c)) H1
  exact seqBE (PostE X.K ca W σ F H Q) se st p (fun _ _ h => h) (fun h => h) fun x F1 H1 p1 g1 => ⟨x, rfl, p1 _ _ _ g1 (.bl _)⟩
def vIf (t : VEnv → Rs Bool) (f g : VEnv → Rs RV) : VEnv → Rs RV := fun env => (t env).bind fun b => if b = true then f env else g env
theorem ve_ifExp {c : Expr} {tc : VEnv → Rs Bool} (hc : VT ca W X c tc) (ha : VE ca W X a fa) (hb : VE ca W X b fb) : VE ca W X (.IfExp c a b pos) (vIf tc fa fb) := by
  obtain ⟨t, pe, se⟩ := hc
  obtain ⟨ta, pa, sa⟩ := ha
  obtain ⟨tb, pb, sb⟩ := hb
  refine ⟨_, pe_ifExp pe pa pb, fun B F env σ H Q st p => ?_⟩
  show t σ H fun c H1 => if c = true then ta σ H1 Q else tb σ H1 Q
  refine seqT (PostE X.K ca W σ F H Q) se st p (fun _ _ h => h) (fun h => h) fun x F1 H1 p1 g1 => ?_
  cases x with
  | true => rw [if_pos rfl]; rw [if_pos rfl] at p1; exact sa B F1 env σ H1 Q (st.grow g1) (PostE.mono g1 p1)
  | false => rw [if_neg Bool.false_ne_true]; rw [if_neg Bool.false_ne_true] at p1; exact sb B F1 env σ H1 Q (st.grow g1) (PostE.mono g1 p1)

/-! ## calls -/
theorem snd_call {K : PySem.W.Frag} {r : List V → Hp → VK → Prop} {g : List RV → Rs RV} {t : TA} {f : VEnv → Rs (List RV)} (hr : CaS K ca r g) (sa : SndA K ca W t f) : SndE K ca W (tCB r t) (cA g f) := by
  intro B F env σ H Q st p
  show t σ H fun vs H1 => r vs H1 Q
  refine seqA (PostE K ca W σ F H Q) sa st p (fun _ _ h => h) (fun h => h) fun rs F1 H1 vs p1 g1 q1 => ?_
  exact hr W σ F H F1 H1 vs rs Q g1 q1 p1
theorem ve_callB {id : String} {x : Str} {p : Pos} {r : List V → Hp → VK → Prop} {g : List RV → Rs RV} {f : VEnv → Rs (List RV)} (hc : CallR X (.builtin id) r) (hr : CaS X.K ca r g) (hg : Gl X x) (hm : X.mg x = none) (hv : bootBuiltins x = some (.builtin id)) (ha : VA ca W X (e :: es) f) (hn : x ≠ "__name__" := by decide) (hdb : (x == ("__debug__" : Str)) = false := by decide)
    (he : starEach (e :: es) X.env = (false, eval e X.env) :: starEach es X.env := by rfl) (hpl : (backTo pos (starEach es X.env)).any (·.1) = false := by rfl) : VE ca W X (.Call (.Name x p) (e :: es) [] pos) (cA g f) := by
  obtain ⟨t, pa, sa⟩ := ha
  exact ⟨_, pe_callB hc hg hm hv pa hn hdb he hpl, snd_call hr sa⟩
theorem ve_callTy {T : String} {x : Str} {p : Pos} {r : List V → Hp → VK → Prop} {g : List RV → Rs RV} {f : VEnv → Rs (List RV)} (hc : CallR X (.type T) r) (hr : CaS X.K ca r g) (hg : Gl X x) (hm : X.mg x = none) (hv : bootBuiltins x = some (.type T)) (ha : VA ca W X (e :: es) f) (hn : x ≠ "__name__" := by decide) (hdb : (x == ("__debug__" : Str)) = false := by decide)
    (he : starEach (e :: es) X.env = (false, eval e X.env) :: starEach es X.env := by rfl) (hpl : (backTo pos (starEach es X.env)).any (·.1) = false := by rfl) : VE ca W X (.Call (.Name x p) (e :: es) [] pos) (cA g f) := by
  obtain ⟨t, pa, sa⟩ := ha
  exact ⟨_, pe_callTy hc hg hm hv pa hn hdb he hpl, snd_call hr sa⟩
end
end VL

namespace VL
open PySem PySem.Spec PyProof.Rows L2

/-! ## statements -/
inductive Out where
  | nx (env : VEnv) | rt (r : RV) | bk (env : VEnv) | ct (env : VEnv)
  | ex (c : Nat) (fs : List (Str × PyData)) (env : VEnv)
  /-- a return that tells what has become of self -/
  | rm (o : Option (Str × List (Str × FV))) (d : PyData)
  /-- a return of an instance and data -/
  | rp (x : Str) (fs : List (Str × FV)) (d : PyData)
  | no
def Out.then : Out → (VEnv → Out) → Out
  | .nx env, f => f env
  | o, _ => o
@[simp] theorem Out.then_nx (env f) : (Out.nx env).then f = f env := rfl
@[simp] theorem Out.then_rt (r f) : (Out.rt r).then f = .rt r := rfl
@[simp] theorem Out.then_bk (r f) : (Out.bk r).then f = .bk r := rfl
@[simp] theorem Out.then_ct (r f) : (Out.ct r).then f = .ct r := rfl
@[simp] theorem Out.then_ex (c fs e f) : (Out.ex c fs e).then f = .ex c fs e := rfl
@[simp] theorem Out.then_rm (o d f) : (Out.rm o d).then f = .rm o d := rfl
@[simp] theorem Out.then_rp (x fs d f) : (Out.rp x fs d).then f = .rp x fs d := rfl
@[simp] theorem Out.then_no (f) : Out.no.then f = .no := rfl
def Rs.out {α : Type} (m : Rs α) (env : VEnv) (f : α → Out) : Out := match m with
  | .ok a => f a
  | .ex c fs => .ex c fs env
  | .no => .no
@[simp] theorem Rs.out_ok {α : Type} (a : α) (env f) : (Rs.ok a).out env f = f a := rfl
@[simp] theorem Rs.out_ex {α : Type} (c fs env) (f : α → Out) : (Rs.ex c fs : Rs α).out env f = .ex c fs env := rfl
@[simp] theorem Rs.out_no {α : Type} (env) (f : α → Out) : (Rs.no : Rs α).out env f = .no := rfl

def MeOk (K : PySem.W.Frag) (B : Base) (F H : Hp) : Option (Str × List (Str × FV)) → Prop
  | some (x, fs) => ObOk K B.H F H B.me x fs
  | none => True
def PairOk (K : PySem.W.Frag) (H0 F H : Hp) (v : V) (x : Str) (fs : List (Str × FV)) (d : PyData) : Prop := ∃ p q w, v = .ref p ∧ SqT K H p [.ref q, w] ∧ ObOk K H0 F H q x fs ∧ Dq K F w d
section
variable (K : PySem.W.Frag) (ca : CA) (W : WX) (B : Base) (F0 : Hp)
def PostS (D : Ends) : Out → Prop
  | .nx env => ∀ F σ H, Same F0 F → StOk K ca B F env σ H → D.nx σ H
  | .bk env => ∀ F σ H, Same F0 F → StOk K ca B F env σ H → D.bk σ H
  | .ct env => ∀ F σ H, Same F0 F → StOk K ca B F env σ H → D.ct σ H
  | .rt r => ∀ F H v, Grow B.F B.H F H → RVok K B.H F H v r → D.rt v H
  | .ex c fs env => ∀ F σ H cls dx, Same F0 F → StOk K ca B F env σ H → ExOk K ca F H cls dx c fs → W cls dx σ H
  | .rm o d => ∀ F H v, Grow B.F B.H F H → Dq K F v d → TabOk ca.T F H → MeOk K B F H o → D.rt v H
  | .rp x fs d => ∀ F H v, Grow B.F B.H F H → TabOk ca.T F H → PairOk K B.H F H v x fs d → D.rt v H
  | .no => False
end
theorem PostS.mono {K : PySem.W.Frag} {ca : CA} {W : WX} {B : Base} {F0 F1 : Hp} {D : Ends} {o : Out} (e : Same F0 F1) (h : PostS K ca W B F0 D o) : PostS K ca W B F1 D o := by
  cases o with
  | nx env => exact fun F σ H s st => h F σ H (e.trans s) st
  | bk env => exact fun F σ H s st => h F σ H (e.trans s) st
  | ct env => exact fun F σ H s st => h F σ H (e.trans s) st
  | rt r => exact h
  | rm o d => exact h
  | rp x fs d => exact h
  | ex c fs env => exact fun F σ H cls dx s st => h F σ H cls dx (e.trans s) st
  | no => exact h
def SndS (K : PySem.W.Frag) (ca : CA) (W : WX) (t : TS) (f : VEnv → Out) : Prop := ∀ B F env σ H D, StOk K ca B F env σ H → PostS K ca W B F D (f env) → t D σ H
structure VS (ca : CA) (W : WX) (X : Cx) (st : Stmt) (f : VEnv → Out) : Prop where
  ex : ∃ t, PS X st t ∧ SndS X.K ca W t f
structure VSs (ca : CA) (W : WX) (X : Cx) (st : List Stmt) (f : VEnv → Out) : Prop where
  ex : ∃ t, PSs X st t ∧ SndS X.K ca W t f

section
variable {K : PySem.W.Frag} {ca : CA} {W : WX} {B : Base} {F H : Hp} {env : VEnv} {σ : L2.St}
theorem exOut {c : Nat} {fs : List (Str × PyData)} {D : Ends} (st : StOk K ca B F env σ H) (h : PostS K ca W B F D (.ex c fs env)) : PostX K ca W σ F H c fs :=
  fun F' H' cls dx g e => h F' σ H' cls dx g.ff (st.grow g) e
theorem outE {t : TE} {f : VEnv → Rs RV} {Q : VK} {D : Ends} {k : RV → Out} (s : SndE K ca W t f) (st : StOk K ca B F env σ H)
    (post : PostS K ca W B F D ((f env).out env k)) (h : ∀ r F1 H1 v, PostS K ca W B F1 D (k r) → Grow F H F1 H1 → RVok K H F1 H1 v r → Q v H1) : t σ H Q := by
  refine s B F env σ H Q st ?_
  cases e : f env with
  | ok r => rw [e] at post; exact fun F' H' v g q => h r F' H' v (PostS.mono g.ff post) g q
  | ex c fs => rw [e] at post; exact exOut st post
  | no => rw [e] at post; exact post
theorem outT {t : TT} {f : VEnv → Rs Bool} {Q : Bool → Hp → Prop} {D : Ends} {k : Bool → Out} (s : SndT K ca W t f) (st : StOk K ca B F env σ H)
    (post : PostS K ca W B F D ((f env).out env k)) (h : ∀ r F1 H1, PostS K ca W B F1 D (k r) → Grow F H F1 H1 → Q r H1) : t σ H Q := by
  refine s B F env σ H Q st ?_
  cases e : f env with
  | ok r => rw [e] at post; exact fun F' H' g => h r F' H' (PostS.mono g.ff post) g
  | ex c fs => rw [e] at post; exact exOut st post
  | no => rw [e] at post; exact post
theorem own_some {K : PySem.W.Frag} {H0 F H : Hp} {p : Addr} {r : RV} (o : r.own = true) (h : RVok K H0 F H (.ref p) r) : H0 p = none ∧ F p = none ∧ ∃ u, H p = some u := by
  cases r with
  | ol xs => obtain ⟨a, vs, z, n, f, hp, _⟩ := h; cases z; exact ⟨n, f, _, hp⟩
  | od xs => obtain ⟨a, vs, z, n, f, hp, _⟩ := h; cases z; exact ⟨n, f, _, hp⟩
  | ot xs => obtain ⟨a, vs, z, n, f, hp, _⟩ := h; cases z; exact ⟨n, f, _, hp⟩
  | ob me x fs => obtain ⟨a, z, C, dx, vs, _, hp, n, f, _⟩ := h; cases z; exact ⟨n, f, _, hp⟩
  | _ => cases o
theorem set_at {env : VEnv} {σ : L2.St} (hl : env.length = σ.length) {i j : Nat} (hi : i < env.length) {r r' : RV} {v : V} (e : (env.set i (some r))[j]? = some (some r')) :
    (j = i ∧ r' = r ∧ (σ.set i (some v))[j]? = some (some v)) ∨ (j ≠ i ∧ env[j]? = some (some r') ∧ (σ.set i (some v))[j]? = σ[j]?) := by
  by_cases h : i = j
  · subst h
    rw [List.getElem?_set_self hi] at e
    cases e
    exact .inl ⟨rfl, rfl, List.getElem?_set_self (by omega)⟩
  · rw [List.getElem?_set_ne h] at e
    exact .inr ⟨Ne.symm h, e, List.getElem?_set_ne h⟩
/-- a slot gets plain data -/
theorem StOk.rgPut0 (st : StOk K ca B F env σ H) {i : Nat} (hi : i < env.length) {v : V} {r : RV} (ho : r.own = false) (hb : r.isB = false) : Rg ca B F (env.set i (some r)) (σ.set i (some v)) H := by
  have at_ := fun {j : Nat} {r' : RV} (e : (env.set i (some r))[j]? = some (some r')) => set_at (v := v) st.len hi e
  refine ⟨st.rg.tb, fun a b p q me x fs r' e z hq e' o' => ?_, fun a b p p' q me me' x x' fs fs' ab e z e' z' hq => ?_, fun a p q x fs e z hq => ?_, fun a x fs e => ?_⟩
  · rcases at_ e with ⟨_, rfl, _⟩ | ⟨_, e1, z1⟩
    · cases ho
    · rcases at_ e' with ⟨_, rfl, _⟩ | ⟨_, e2, z2⟩
      · rw [ho] at o'; cases o'
      · rw [z1] at z; rw [z2]; exact st.rg.o1 a b p q me x fs r' e1 z hq e2 o'
  · rcases at_ e with ⟨_, rfl, _⟩ | ⟨_, e1, z1⟩
    · cases ho
    · rcases at_ e' with ⟨_, rfl, _⟩ | ⟨_, e2, z2⟩
      · cases ho
      · rw [z1] at z; rw [z2] at z'; exact st.rg.o2 a b p p' q me me' x x' fs fs' ab e1 z e2 z' hq
  · rcases at_ e with ⟨_, rfl, _⟩ | ⟨_, e1, z1⟩
    · cases hb
    · rw [z1] at z; exact st.rg.o3 a p q x fs e1 z hq
  · rcases at_ e with ⟨_, rfl, _⟩ | ⟨_, e1, z1⟩
    · cases ho
    · rw [z1]; exact st.rg.me a x fs e1
/-- a slot gets a value of its own or plain data -/
theorem StOk.put (st : StOk K ca B F env σ H) {i : Nat} (hi : i < env.length) {v : V} {r : RV} (q : RVok K B.H F H v r) (hb : r.isB = false) (rg : Rg ca B F (env.set i (some r)) (σ.set i (some v)) H)
    (hd : r.own = true → ∀ (j : Nat) (r' : RV) (p : Addr), j ≠ i → env[j]? = some (some r') → r'.own = true → v = .ref p → σ[j]? ≠ some (some (.ref p))) : StOk K ca B F (env.set i (some r)) (σ.set i (some v)) H := by
  have hi' : i < σ.length := by rw [← st.len]; exact hi
  refine ⟨st.gr, by simp [st.len], fun j r1 e => ?_, fun j r1 p e o s => ?_, fun j k r1 r2 p jk e1 e2 o1 o2 s1 s2 => ?_, rg⟩
  · by_cases h : i = j
    · subst h
      rw [List.getElem?_set_self hi] at e
      cases e
      exact ⟨v, by rw [List.getElem?_set_self hi'], q⟩
    · rw [List.getElem?_set_ne h] at e
      obtain ⟨w, e1, q1⟩ := st.sl j r1 e
      exact ⟨w, by rw [List.getElem?_set_ne h]; exact e1, q1⟩
  · by_cases h : i = j
    · subst h
      rw [List.getElem?_set_self hi] at e
      cases e
      rw [hb] at o; cases o
    · rw [List.getElem?_set_ne h] at e s
      exact st.bo j r1 p e o s
  · by_cases h1 : i = j
    · subst h1
      rw [List.getElem?_set_self hi] at e1
      rw [List.getElem?_set_self hi'] at s1
      rw [List.getElem?_set_ne jk] at e2 s2
      cases e1
      exact hd o1 k r2 p (Ne.symm jk) e2 o2 (Option.some.inj (Option.some.inj s1)) s2
    · rw [List.getElem?_set_ne h1] at e1 s1
      by_cases h2 : i = k
      · subst h2
        rw [List.getElem?_set_self hi] at e2
        rw [List.getElem?_set_self hi'] at s2
        cases e2
        exact hd o2 j r1 p (Ne.symm h1) e1 o1 (Option.some.inj (Option.some.inj s2)) s1
      · rw [List.getElem?_set_ne h2] at e2 s2
        exact st.dis j k r1 r2 p jk e1 e2 o1 o2 s1 s2
def RV.notMe : RV → Bool
  | .ob true _ _ => false
  | _ => true
/-- a slot gets what is new over an earlier heap -/
theorem StOk.rgNew {F1 H1 : Hp} (st : StOk K ca B F env σ H) (g : Grow F H F1 H1) {i : Nat} (hi : i < env.length) {v : V} {r : RV} (q : RVok K H F1 H1 v r) (hb : r.isB = false) (hm : r.notMe = true) : Rg ca B F1 (env.set i (some r)) (σ.set i (some v)) H1 := by
  have st1 := st.grow g
  have at_ := fun {j : Nat} {r' : RV} (e : (env.set i (some r))[j]? = some (some r')) => set_at (v := v) st.len hi e
  -- what is old is there; what is new was not
  have old1 : ∀ {j : Nat} {r' : RV} {p : Addr}, env[j]? = some (some r') → r'.own = true → σ[j]? = some (some (.ref p)) → ∃ u, H p = some u := fun {j r' p} e o z => by
    obtain ⟨w, e1, q1⟩ := st.sl j _ e
    rw [z] at e1
    cases e1
    exact (own_some o q1).2.2
  have old2 : ∀ {j : Nat} {p q : Addr} {me : Bool} {x : Str} {fs : List (Str × FV)}, env[j]? = some (some (.ob me x fs)) → σ[j]? = some (some (.ref p)) → q ∈ fla H1 p fs → ∃ u, H q = some u := fun {j p q me x fs} e z hq => by
    have h := st.obAt e z
    rw [fla_grow g.hh fs h.ins] at hq
    exact ⟨_, (h.at hq).2.2.choose_spec⟩
  have new1 : ∀ {p : Addr}, r.own = true → v = .ref p → H p = none := fun {p} o e => by
    subst e
    exact (own_some o q).1
  have new2 : ∀ {p q' : Addr} {me : Bool} {x : Str} {fs : List (Str × FV)}, r = .ob me x fs → v = .ref p → q' ∈ fla H1 p fs → H q' = none ∧ ∃ ws, H1 q' = some (.lst ws) := fun {p q' me x fs} er ev hq => by
    subst er; subst ev
    obtain ⟨p', z, h⟩ := q
    cases z
    exact ⟨(h.at hq).1, (h.at hq).2.2⟩
  have no : ∀ {q : Addr}, H q = none → (∃ u, H q = some u) → False := fun h ⟨u, e⟩ => by rw [h] at e; cases e
  refine ⟨st1.rg.tb, fun a b p q' me x fs r' e z hq e' o' => ?_, fun a b p p' q' me me' x x' fs fs' ab e z e' z' hq hq' => ?_, fun a p q' x fs e z hq => ?_, fun a x fs e => ?_⟩
  · rcases at_ e with ⟨ia, er, za⟩ | ⟨_, e1, z1⟩
    · rw [za] at z
      have ev : v = .ref p := Option.some.inj (Option.some.inj z)
      obtain ⟨n1, ws, hl⟩ := new2 er.symm ev hq
      rcases at_ e' with ⟨_, rfl, zb⟩ | ⟨_, e2, z2⟩
      · rw [zb, ev]
        intro w
        have w : p = q' := by injection w with w; injection w with w; injection w
        obtain ⟨p', z', C, dx, vs, _, hp, _⟩ := (er ▸ q : RVok K H F1 H1 v (.ob me x fs))
        rw [ev] at z'
        cases z'
        rw [w, hl] at hp
        cases hp
      · rw [z2]
        intro w
        exact no n1 (old1 e2 o' w)
    · rw [z1] at z
      have hs := old2 e1 z hq
      rcases at_ e' with ⟨_, rfl, zb⟩ | ⟨_, e2, z2⟩
      · rw [zb]
        intro w
        exact no (new1 o' (Option.some.inj (Option.some.inj w))) hs
      · rw [z2]; exact st1.rg.o1 a b p q' me x fs r' e1 z hq e2 o'
  · rcases at_ e with ⟨ia, er, za⟩ | ⟨_, e1, z1⟩
    · rw [za] at z
      have ev : v = .ref p := Option.some.inj (Option.some.inj z)
      obtain ⟨n1, ws, hl⟩ := new2 er.symm ev hq
      rcases at_ e' with ⟨ib, _, _⟩ | ⟨_, e2, z2⟩
      · exact ab (ia.trans ib.symm)
      · rw [z2] at z'
        exact no n1 (old2 e2 z' hq')
    · rw [z1] at z
      rcases at_ e' with ⟨ib, er, zb⟩ | ⟨_, e2, z2⟩
      · rw [zb] at z'
        exact no (new2 er.symm (Option.some.inj (Option.some.inj z')) hq').1 (old2 e1 z hq)
      · rw [z2] at z'
        exact st1.rg.o2 a b p p' q' me me' x x' fs fs' ab e1 z e2 z' hq hq'
  · rcases at_ e with ⟨_, rfl, _⟩ | ⟨_, e1, z1⟩
    · cases hb
    · rw [z1] at z; exact st1.rg.o3 a p q' x fs e1 z hq
  · rcases at_ e with ⟨_, rfl, _⟩ | ⟨_, e1, z1⟩
    · cases hm
    · rw [z1]; exact st1.rg.me a x fs e1
/-- a value that came out of an expression over this state -/
theorem StOk.putE {F1 H1 : Hp} (st : StOk K ca B F env σ H) (g : Grow F H F1 H1) {i : Nat} (hi : i < env.length) {v : V} {r : RV} (q : RVok K H F1 H1 v r) (hb : r.isB = false) (hm : r.notMe = true) : StOk K ca B F1 (env.set i (some r)) (σ.set i (some v)) H1 := by
  refine (st.grow g).put hi (q.older st.gr.hh) hb (st.rgNew g hi q hb hm) fun o j r' p ji e o' ev s => ?_
  obtain ⟨w, e1, q1⟩ := st.sl j r' e
  rw [s] at e1
  cases e1
  obtain ⟨_, _, ob, hp⟩ := own_some o' q1
  subst ev
  rw [(own_some o q).1] at hp
  cases hp
theorem StOk.put0 (st : StOk K ca B F env σ H) {i : Nat} (hi : i < env.length) {v : V} {r : RV} (q : RVok K B.H F H v r) (hb : r.isB = false) (ho : r.own = false) : StOk K ca B F (env.set i (some r)) (σ.set i (some v)) H :=
  st.put hi q hb (st.rgPut0 hi ho hb) fun z => by rw [ho] at z; cases z
theorem drop_at {env : VEnv} {i j : Nat} {r' : RV} (e : (env.set i none)[j]? = some (some r')) : j ≠ i ∧ env[j]? = some (some r') := by
  by_cases h : i = j
  · subst h
    by_cases hi : i < env.length
    · rw [List.getElem?_set_self hi] at e; cases e
    · rw [List.getElem?_eq_none (by simpa using hi)] at e; cases e
  · rw [List.getElem?_set_ne h] at e
    exact ⟨Ne.symm h, e⟩
/-- a slot forgotten -/
theorem StOk.drop (st : StOk K ca B F env σ H) (i : Nat) : StOk K ca B F (env.set i none) (σ.set i none) H := by
  have sg : ∀ {j : Nat}, j ≠ i → (σ.set i none)[j]? = σ[j]? := fun h => List.getElem?_set_ne (Ne.symm h)
  refine ⟨st.gr, by simp [st.len], fun j r1 e => ?_, fun j r1 p e o s => ?_, fun j k r1 r2 p jk e1 e2 o1 o2 s1 s2 => ?_, ⟨st.rg.tb, fun a b p q me x fs r' e z hq e' o' => ?_, fun a b p p' q me me' x x' fs fs' ab e z e' z' hq => ?_, fun a p q x fs e z hq => ?_, fun a x fs e => ?_⟩⟩
  · obtain ⟨h, e⟩ := drop_at e
    obtain ⟨w, e1, q1⟩ := st.sl j r1 e
    exact ⟨w, by rw [sg h]; exact e1, q1⟩
  · obtain ⟨h, e⟩ := drop_at e
    rw [sg h] at s
    exact st.bo j r1 p e o s
  · obtain ⟨h1, e1⟩ := drop_at e1
    obtain ⟨h2, e2⟩ := drop_at e2
    rw [sg h1] at s1
    rw [sg h2] at s2
    exact st.dis j k r1 r2 p jk e1 e2 o1 o2 s1 s2
  · obtain ⟨h1, e⟩ := drop_at e
    obtain ⟨h2, e'⟩ := drop_at e'
    rw [sg h1] at z
    rw [sg h2]
    exact st.rg.o1 a b p q me x fs r' e z hq e' o'
  · obtain ⟨h1, e⟩ := drop_at e
    obtain ⟨h2, e'⟩ := drop_at e'
    rw [sg h1] at z
    rw [sg h2] at z'
    exact st.rg.o2 a b p p' q me me' x x' fs fs' ab e z e' z' hq
  · obtain ⟨h1, e⟩ := drop_at e
    rw [sg h1] at z
    exact st.rg.o3 a p q x fs e z hq
  · obtain ⟨h1, e⟩ := drop_at e
    rw [sg h1]
    exact st.rg.me a x fs e
end

/-! ### freezing a slot's list -/
def fzE (i : Nat) (env : VEnv) : VEnv := match env[i]? with
  | some (some (.ol xs)) => env.set i (some (.d (.list xs)))
  | _ => env
theorem StOk.fz {K : PySem.W.Frag} {B : Base} {F H : Hp} {env : VEnv} {σ : L2.St} (st : StOk K ca B F env σ H) (i : Nat) : ∃ F', Same F F' ∧ StOk K ca B F' (fzE i env) σ H := by
  unfold fzE
  split
  · rename_i xs e
    obtain ⟨v, e1, p, vs, rfl, n0, f, hp, q⟩ := st.sl i _ e
    have hi : i < env.length := (List.getElem?_eq_some_iff.mp e).1
    have s1 : Same F (upd F p (.lst vs)) := fun b u k => by rw [upd_ne (ne_of_none k f)]; exact k
    have up0 : ∀ {j : Nat} {r : RV}, (env.set i (some (.d (.list xs))))[j]? = some (some r) → (r.own = true ∨ r.isB = true) → j ≠ i ∧ env[j]? = some (some r) := fun {j r} e2 o => by
      by_cases h : i = j
      · subst h; rw [List.getElem?_set_self hi] at e2; cases e2; rcases o with o | o <;> cases o
      · rw [List.getElem?_set_ne h] at e2; exact ⟨Ne.symm h, e2⟩
    refine ⟨upd F p (.lst vs), s1, st.gr.freeze n0 f hp, by simpa using st.len, fun j r e2 => ?_, fun j r a e2 o z => ?_, fun j k r1 r2 a jk q1 q2 o1 o2 z1 z2 => ?_, ⟨st.rg.tb.to fun P ps f0 h0 => ⟨by rw [upd_ne (show P ≠ p from fun w => by rw [w, hp] at h0; cases h0)]; exact f0, rfl⟩,
      fun a b p' q me x fs r' e2 z hq e' o' => st.rg.o1 a b p' q me x fs r' (up0 e2 (.inl rfl)).2 z hq (up0 e' (.inl o')).2 o',
      fun a b p1 p' q me me' x x' fs fs' ab e2 z e' z' hq => st.rg.o2 a b p1 p' q me me' x x' fs fs' ab (up0 e2 (.inl rfl)).2 z (up0 e' (.inl rfl)).2 z' hq,
      fun a p' q x fs e2 z hq => st.rg.o3 a p' q x fs (up0 e2 (.inr rfl)).2 z hq,
      fun a x fs e2 => st.rg.me a x fs (up0 e2 (.inl rfl)).2⟩⟩
    · by_cases h : i = j
      · subst h
        rw [List.getElem?_set_self hi] at e2
        cases e2
        exact ⟨_, e1, .lst upd_same (DqA.mono s1 _ _ q)⟩
      · rw [List.getElem?_set_ne h] at e2
        obtain ⟨w, e3, q3⟩ := st.sl j r e2
        refine ⟨w, e3, ?_⟩
        have ne : ∀ a, r.own = true → w = .ref a → a ≠ p := fun a o z y => by
          subst y; subst z
          exact st.dis i j (.ol xs) r a h e e2 rfl o e1 e3
        cases r with
        | d x => exact Dq.mono s1 x w q3
        | ol ys => obtain ⟨a, ws, z, n, f2, h2, q4⟩ := q3; exact ⟨a, ws, z, n, by rw [upd_ne (ne a rfl z)]; exact f2, h2, DqA.mono s1 _ _ q4⟩
        | od ys => obtain ⟨a, ws, z, n, f2, h2, q4⟩ := q3; exact ⟨a, ws, z, n, by rw [upd_ne (ne a rfl z)]; exact f2, h2, q4.mono s1⟩
        | ot ys => obtain ⟨a, ws, z, n, f2, h2, q4⟩ := q3; exact ⟨a, ws, z, n, by rw [upd_ne (ne a rfl z)]; exact f2, h2, q4.mono s1⟩
        | sc ns => obtain ⟨a, z, q4⟩ := q3; exact ⟨a, z, s1.seq q4⟩
        | bl ys => obtain ⟨a, ws, z, h2, q4⟩ := q3; exact ⟨a, ws, z, h2, DqA.mono s1 _ _ q4⟩
        | bd ys => obtain ⟨a, ws, z, h2, q4⟩ := q3; exact ⟨a, ws, z, h2, q4.mono s1⟩
        | bt ys => obtain ⟨a, ws, z, h2, q4⟩ := q3; exact ⟨a, ws, z, h2, q4.mono s1⟩
        | xo a dd c fs => obtain ⟨z, ws, h2, q4⟩ := q3; exact ⟨z, ws, h2, q4.mono s1⟩
        | t3 x ys kvs => exact t3_mono s1 q3
        | fd kvs => exact fd_mono s1 q3
        | ob me x fs =>
          obtain ⟨a, z, h4⟩ := q3
          subst z
          have h5 := h4
          obtain ⟨C, dx, us, _, hi5, n5, f5, _⟩ := h5
          refine ⟨a, rfl, h4.to s1 n5 (by rw [upd_ne (ne a rfl rfl)]; exact f5) rfl fun q hq ws nq fq lq => ⟨nq, ?_, lq⟩⟩
          rw [upd_ne (show q ≠ p from fun w => st.rg.o1 j i a q me x fs (.ol xs) e2 e3 hq e rfl (w ▸ e1))]
          exact fq
        | bo x fs => obtain ⟨a, z, h4⟩ := q3; exact ⟨a, z, h4.to s1 rfl fun q _ ws lq => lq⟩
    · by_cases h : i = j
      · subst h; rw [List.getElem?_set_self hi] at e2; cases e2; cases o
      · rw [List.getElem?_set_ne h] at e2
        exact st.bo j r a e2 o z
    · by_cases h1 : i = j
      · subst h1; rw [List.getElem?_set_self hi] at q1; cases q1; cases o1
      · by_cases h2 : i = k
        · subst h2; rw [List.getElem?_set_self hi] at q2; cases q2; cases o2
        · rw [List.getElem?_set_ne h1] at q1
          rw [List.getElem?_set_ne h2] at q2
          exact st.dis j k r1 r2 a jk q1 q2 o1 o2 z1 z2
  · exact ⟨F, Same.refl _, st⟩
end VL

namespace VL
open PySem PySem.Spec PyProof.Rows L2

section
variable {ca : CA} {W : WX} {X : Cx} {a b e : Expr} {es : List Expr} {fa fb : VEnv → Rs RV} {pos : Pos} {st : Stmt} {rest : List Stmt} {f g : VEnv → Out}
/-! ### blocks -/
def sNil : VEnv → Out := fun env => .nx env
def sSeq (f g : VEnv → Out) : VEnv → Out := fun env => (f env).then g
theorem vss_nil : VSs ca W X [] sNil := ⟨_, pss_nil, fun _ _ _ _ _ _ st p => p _ _ _ (Same.refl _) st⟩
theorem vss_cons (h1 : VS ca W X st f) (h2 : VSs ca W X rest g) : VSs ca W X (st :: rest) (sSeq f g) := by
  obtain ⟨t, p1, s1⟩ := h1
  obtain ⟨u, p2, s2⟩ := h2
  refine ⟨_, pss_cons p1 p2, fun B F env σ H D st p => ?_⟩
  show t { D with nx := u D } σ H
  refine s1 B F env σ H _ st ?_
  unfold sSeq at p
  cases e : f env with
  | nx env' => rw [e] at p; exact fun F' σ' H' s st' => s2 B F' env' σ' H' D st' (PostS.mono s p)
  | bk env' => rw [e] at p; exact p
  | ct env' => rw [e] at p; exact p
  | rt r => rw [e] at p; exact p
  | rm o d => rw [e] at p; exact p
  | rp x fs d => rw [e] at p; exact p
  | ex c fs env' => rw [e] at p; exact p
  | no => rw [e] at p; exact p
theorem vss_one (h1 : VS ca W X st f) : VSs ca W X [st] f := by
  obtain ⟨t, p1, s1⟩ := h1
  exact ⟨_, pss_one p1, s1⟩
def sFz (i : Nat) (f : VEnv → Out) : VEnv → Out := fun env => f (fzE i env)
theorem vs_fz (i : Nat) (h : VS ca W X st f) : VS ca W X st (sFz i f) := by
  obtain ⟨t, p1, s1⟩ := h
  refine ⟨t, p1, fun B F env σ H D st p => ?_⟩
  obtain ⟨F', s, st'⟩ := st.fz i
  exact s1 B F' (fzE i env) σ H D st' (PostS.mono s p)
/-! ### small statements -/
def sBk : VEnv → Out := fun env => .bk env
def sCt : VEnv → Out := fun env => .ct env
theorem vs_pass : VS ca W X (.Pass pos) sNil := ⟨_, ps_pass, fun _ _ _ _ _ _ st p => p _ _ _ (Same.refl _) st⟩
theorem vs_break : VS ca W X (.Break pos) sBk := ⟨_, ps_break, fun _ _ _ _ _ _ st p => p _ _ _ (Same.refl _) st⟩
theorem vs_continue : VS ca W X (.Continue pos) sCt := ⟨_, ps_continue, fun _ _ _ _ _ _ st p => p _ _ _ (Same.refl _) st⟩
/-- no borrowed thing is handed on -/
def RV.nb : RV → Rs RV
  | .bl _ | .bd _ | .bt _ | .bo _ _ | .ob true _ _ => .no
  | r => .ok r
theorem nb_b {r r' : RV} (e : r.nb = .ok r') : r.isB = false ∧ r.notMe = true := by
  cases r with
  | ob me _ _ => cases me <;> cases e; exact ⟨rfl, rfl⟩
  | _ => first | exact ⟨rfl, rfl⟩ | cases e
def sRet (fe : VEnv → Rs RV) : VEnv → Out := fun env => (fe env).out env fun r => (r.nb).out env .rt
theorem vs_ret (he : VE ca W X e fa) : VS ca W X (.Return (some e) pos) (sRet fa) := by
  obtain ⟨t, pe, se⟩ := he
  refine ⟨_, ps_ret pe, fun B F env σ H D st p => ?_⟩
  refine outE (t := t) (Q := D.rt) se st p fun r F1 H1 v p1 g q => ?_
  cases r with
  | bl _ => exact p1.elim
  | bd _ => exact p1.elim
  | bt _ => exact p1.elim
  | bo _ _ => exact p1.elim
  | ob me _ _ =>
    cases me with
    | true => exact p1.elim
    | false => exact p1 F1 H1 v (st.gr.trans g) (q.older st.gr.hh)
  | _ => exact p1 F1 H1 v (st.gr.trans g) (q.older st.gr.hh)
/-- return x, x a list or dict of the def's own -/
def sRetV (i : Nat) : VEnv → Out := fun env => match env[i]? with
  | some (some r) => (r.nb).out env .rt
  | _ => .no
theorem vs_retv (i : Nat) {x : Str} {p' : Pos} (hN : X.N[i]? = some x := by rfl) (hv : Vis X.env.scope x := by first | exact Or.inl rfl | exact Or.inr (Or.inl rfl) | exact Or.inr (Or.inr rfl)) (hd : (x == ("__debug__" : Str)) = false := by decide)
    (hcd : (x == ("__classdict__" : Str)) = false := by decide) : VS ca W X (.Return (some (.Name x p')) pos) (sRetV i) := by
  refine ⟨_, ps_ret (pe_var hN hv hd hcd), fun B F env σ H D st p => ?_⟩
  unfold sRetV at p
  split at p
  · rename_i r e
    obtain ⟨v, e1, h⟩ := st.sl i r e
    refine ⟨v, e1, ?_⟩
    cases r with
    | bl _ => exact p.elim
    | bd _ => exact p.elim
    | bt _ => exact p.elim
    | bo _ _ => exact p.elim
    | ob me _ _ =>
      cases me with
      | true => exact p.elim
      | false => exact p F H v st.gr h
    | _ => exact p F H v st.gr h
  · exact p.elim
def sRetN : VEnv → Out := fun _ => .rt (.d .none)
theorem vs_retN : VS ca W X (.Return none pos) sRetN := ⟨_, ps_retN, fun _ _ _ _ _ _ st p => p _ _ _ st.gr .non⟩
def sDrop (fe : VEnv → Rs RV) : VEnv → Out := fun env => (fe env).out env fun _ => .nx env
theorem vs_expr (he : VE ca W X e fa) (hs : swapsWith e none pos.line X.env = pure false := by rfl) : VS ca W X (.Expr e pos) (sDrop fa) := by
  obtain ⟨t, pe, se⟩ := he
  refine ⟨_, ps_expr pe hs, fun B F env σ H D st p => ?_⟩
  show t σ H fun _ H1 => D.nx σ H1
  exact outE se st p fun r F1 H1 v p1 g q => p1 F1 σ H1 (Same.refl _) (st.grow g)
/-- a name gets a value -/
def putS (i : Nat) (r : RV) (env : VEnv) : Out := (r.nb).out env fun r => if i < env.length then .nx (env.set i (some r)) else .no
def sSet (i : Nat) (fe : VEnv → Rs RV) : VEnv → Out := fun env => (fe env).out env fun r => putS i r env
theorem snd_put {K : PySem.W.Frag} {B : Base} {F H F1 H1 : Hp} {env : VEnv} {σ : L2.St} {D : Ends} {i : Nat} {r : RV} {v : V} (st : StOk K ca B F env σ H) (g : Grow F H F1 H1) (q : RVok K H F1 H1 v r) (p : PostS K ca W B F1 D (putS i r env)) : D.nx (σ.set i (some v)) H1 := by
  unfold putS at p
  have go : ∀ r' : RV, r.nb = .ok r' → r' = r := fun r' e => by
    cases r with
    | ob me _ _ => cases me <;> cases e; rfl
    | _ => cases e <;> rfl
  cases e : r.nb with
  | ok r' =>
    rw [e] at p
    cases go r' e
    simp only [Rs.out_ok] at p
    split at p
    · rename_i hi
      exact p F1 _ H1 (Same.refl _) (st.putE g hi q (nb_b e).1 (nb_b e).2)
    · exact p.elim
  | ex c fs => exact absurd e (by
      cases r with
      | ob me _ _ => cases me <;> simp [RV.nb]
      | _ => simp [RV.nb])
  | no => rw [e] at p; exact p.elim
theorem vs_set {i : Nat} {x : Str} {pos' : Pos} (hN : X.N.Nodup) (hi : X.N[i]? = some x) (hx : Loc X.env.scope x) (he : VE ca W X e fa) (hs : swapsWith e (some (.Name x pos')) pos.line X.env = pure false := by rfl) (hf : X.fn x = true ∨ X.env.scope.names.lookup x = some .local := by first | exact .inl rfl | exact .inr rfl | assumption) :
    VS ca W X (.Assign [.Name x pos'] e pos) (sSet i fa) := by
  obtain ⟨t, pe, se⟩ := he
  refine ⟨_, ps_set hN hi hx pe hs hf, fun B F env σ H D st p => ?_⟩
  show t σ H fun x H1 => D.nx (σ.set i (some x)) H1
  exact outE se st p fun r F1 H1 v p1 g q => snd_put st g q p1
def sIf (c : VEnv → Rs Bool) (f g : VEnv → Out) : VEnv → Out := fun env => (c env).out env fun b => if b = true then f env else g env
theorem vs_if {c : Expr} {ss tt : List Stmt} {tc : VEnv → Rs Bool} (hc : VT ca W X c tc) (ha : VSs ca W X ss f) (hb : VSs ca W X tt g) : VS ca W X (.If c ss tt pos) (sIf tc f g) := by
  obtain ⟨t, pe, se⟩ := hc
  obtain ⟨ta, pa, sa⟩ := ha
  obtain ⟨tb, pb, sb⟩ := hb
  refine ⟨_, ps_if pe pa pb, fun B F env σ H D st p => ?_⟩
  show t σ H fun b H1 => if b = true then ta D σ H1 else tb D σ H1
  refine outT se st p fun b F1 H1 p1 g => ?_
  cases b with
  | true => rw [if_pos rfl]; rw [if_pos rfl] at p1; exact sa B F1 env σ H1 D (st.grow g) p1
  | false => rw [if_neg Bool.false_ne_true]; rw [if_neg Bool.false_ne_true] at p1; exact sb B F1 env σ H1 D (st.grow g) p1

/-! ### while -/
def loopW (c : VEnv → Rs Bool) (f : VEnv → Out) : Nat → VEnv → Out
  | 0, _ => .no
  | n + 1, env => (c env).out env fun b => if b = true then
      (match f env with
        | .nx e => loopW c f n e
        | .ct e => loopW c f n e
        | .bk e => .nx e
        | o => o) else .nx env
def sWhile (n : Nat) (c : VEnv → Rs Bool) (f : VEnv → Out) : VEnv → Out := loopW c f n
theorem vs_while {c : Expr} {body : List Stmt} {tc : VEnv → Rs Bool} (n : Nat) (hp : PassesOwn (model X.prog X.w) X.A X.env X.xe) (hc : VT ca W X c tc) (hb : VSs ca W X body f) : VS ca W X (.While c body [] pos) (sWhile n tc f) := by
  obtain ⟨t, pe, se⟩ := hc
  obtain ⟨tb, pb, sb⟩ := hb
  refine ⟨_, ps_while hp pe pb, fun B F env σ H D st p => ?_⟩
  refine ⟨fun m σ H => ∃ F' env', Same F F' ∧ StOk X.K ca B F' env' σ H ∧ PostS X.K ca W B F' D (loopW tc f m env'), ⟨n, F, env, Same.refl _, st, p⟩, ?_⟩
  rintro m σ1 H1 ⟨F1, env1, s1, st1, p1⟩
  cases m with
  | zero => exact p1.elim
  | succ m =>
    unfold loopW at p1
    refine outT se st1 p1 fun b F2 H2 p2 g => ?_
    cases b with
    | false => rw [if_neg Bool.false_ne_true]; rw [if_neg Bool.false_ne_true] at p2; exact p2 F2 σ1 H2 (Same.refl _) (st1.grow g)
    | true =>
      rw [if_pos rfl]; rw [if_pos rfl] at p2
      refine ⟨fun σ' H' => ∃ F' env', Same F F' ∧ StOk X.K ca B F' env' σ' H' ∧ PostS X.K ca W B F' D (loopW tc f m env'), fun σ' H' z => ⟨m, Nat.lt_succ_self m, z⟩, ?_⟩
      refine sb B F2 env1 σ1 H2 _ (st1.grow g) ?_
      cases e : f env1 with
      | nx env' => rw [e] at p2; exact fun F' σ' H' s st' => ⟨F', env', (s1.trans g.ff).trans s, st', PostS.mono s p2⟩
      | ct env' => rw [e] at p2; exact fun F' σ' H' s st' => ⟨F', env', (s1.trans g.ff).trans s, st', PostS.mono s p2⟩
      | bk env' => rw [e] at p2; exact p2
      | rt r => rw [e] at p2; exact p2
      | rm o d => rw [e] at p2; exact p2
      | rp x fs d => rw [e] at p2; exact p2
      | ex c fs env' => rw [e] at p2; exact p2
      | no => rw [e] at p2; exact p2

/-! ### what is walked -/
structure JWalk (J : It) (G : Hp) (vs : List V) : Prop where
  go : ∀ i H, SameN G H → i < vs.length → J.go i H
  yld : ∀ i H x H', SameN G H → J.yld i H x H' → i < vs.length → H' = H ∧ vs[i]? = some x
  stop : ∀ H, SameN G H → J.stop vs.length H
theorem jw_list {K : PySem.W.Frag} {G : Hp} {a : Addr} {vs : List V} (h : SqL K G a vs) : JWalk (Itl K a) G vs where
  go := fun i H s hi => ⟨vs, vs[i], s.seq h, by simp [hi]⟩
  yld := fun i H x H' s y hi => ⟨y.1, y.2 vs (s.seq h)⟩
  stop := fun H s => ⟨vs, s.seq h, Nat.le_refl _⟩
theorem jw_tup {K : PySem.W.Frag} {G : Hp} {a : Addr} {vs : List V} (h : SqT K G a vs) : JWalk (Itt K a) G vs where
  go := fun i H s hi => ⟨vs, vs[i], s.seqT h, by simp [hi]⟩
  yld := fun i H x H' s y hi => ⟨y.1, y.2 vs (s.seqT h)⟩
  stop := fun H s => ⟨vs, s.seqT h, Nat.le_refl _⟩
def rngL (lo : Int) (n : Nat) : List PyData := (List.range n).map fun i : Nat => .int (lo + (i : Int))
theorem jw_rng {G : Hp} (lo : Int) (n : Nat) : JWalk (Itr lo n) G ((List.range n).map fun i : Nat => V.int (lo + (i : Int))) where
  go := fun i H s hi => by
    have hi' : i < n := by simpa using hi
    exact hi'
  yld := fun i H x H' s y hi => by
    have hi' : i < n := by simpa using hi
    refine ⟨y.1, ?_⟩
    rw [y.2, List.getElem?_map, List.getElem?_range hi']
    rfl
  stop := fun H s => by show n ≤ _; simp
def PostI (K : PySem.W.Frag) (ca : CA) (W : WX) (σ : L2.St) (F H : Hp) (R : It → Hp → Prop) : Rs (List PyData) → Prop
  | .ok xs => ∀ J F' H' vs, Grow F H F' H' → DqA K F' vs xs → JWalk J F' vs → R J H'
  | .ex c fs => PostX K ca W σ F H c fs
  | .no => False
def SndI (K : PySem.W.Frag) (ca : CA) (W : WX) (t : TI) (f : VEnv → Rs (List PyData)) : Prop := ∀ B F env σ H R, StOk K ca B F env σ H → PostI K ca W σ F H R (f env) → t σ H R
structure VI (ca : CA) (W : WX) (X : Cx) (tg iter : Expr) (f : VEnv → Rs (List PyData)) : Prop where
  ex : ∃ t, PI X tg iter t ∧ SndI X.K ca W t f
/-- for a comprehension: a borrowed list, too -/
def PostJ (K : PySem.W.Frag) (ca : CA) (W : WX) (σ : L2.St) (F H : Hp) (R : It → Hp → Prop) : Rs (List PyData) → Prop
  | .ok xs => ∀ J F' H' vs, Grow F H F' H' → DqA K F' vs xs → JWalk J H' vs → R J H'
  | .ex c fs => PostX K ca W σ F H c fs
  | .no => False
def SndJ (K : PySem.W.Frag) (ca : CA) (W : WX) (t : TI) (f : VEnv → Rs (List PyData)) : Prop := ∀ B F env σ H R, StOk K ca B F env σ H → PostJ K ca W σ F H R (f env) → t σ H R
structure VJ (ca : CA) (W : WX) (X : Cx) (tg iter : Expr) (f : VEnv → Rs (List PyData)) : Prop where
  ex : ∃ t, PI X tg iter t ∧ SndJ X.K ca W t f
theorem JWalk.up {J : It} {G G' : Hp} {vs : List V} (h : JWalk J G vs) (s : Same G G') : JWalk J G' vs :=
  ⟨fun i H q => h.go i H (s.n.trans q), fun i H x H' q => h.yld i H x H' (s.n.trans q), fun H q => h.stop H (s.n.trans q)⟩
theorem VI.vj {tg iter : Expr} {f : VEnv → Rs (List PyData)} (h : VI ca W X tg iter f) : VJ ca W X tg iter f := by
  obtain ⟨t, p, s⟩ := h
  refine ⟨t, p, fun B F env σ H R st q => s B F env σ H R st ?_⟩
  cases e : f env with
  | ok xs => rw [e] at q; exact fun J F' H' vs g d j => q J F' H' vs g d (j.up g.cfg.sub)
  | ex c fs => rw [e] at q; exact q
  | no => rw [e] at q; exact q
def gL : RV → Rs (List PyData)
  | .d (.list xs) => .ok xs
  | .ol xs => .ok xs
  | .sc ns => .ok (ns.map .int)
  | _ => .no
def gT : RV → Rs (List PyData)
  | .d (.tuple xs) => .ok xs
  | _ => .no
def gLb : RV → Rs (List PyData)
  | .bl xs => .ok xs
  | r => gL r
def iL (fe : VEnv → Rs RV) : VEnv → Rs (List PyData) := fun env => (fe env).bind gL
def iT (fe : VEnv → Rs RV) : VEnv → Rs (List PyData) := fun env => (fe env).bind gT
def iLb (fe : VEnv → Rs RV) : VEnv → Rs (List PyData) := fun env => (fe env).bind gLb
theorem vi_list {tg : Expr} (h : VE ca W X e fa) : VI ca W X tg e (iL fa) := by
  obtain ⟨t, p, s⟩ := h
  refine ⟨_, pi_list p, fun B F env σ H R st q => ?_⟩
  show t σ H fun x H1 => ∃ a, x = .ref a ∧ (∃ xs, SqL X.K H1 a xs) ∧ R (Itl X.K a) H1
  refine seqE (PostI X.K ca W σ F H R) s st q (fun _ _ h => h) (fun h => h) fun r F1 H1 v p1 g1 q1 => ?_
  cases r with
  | d x =>
    cases x with
    | list xs =>
      cases q1 with
      | lst h1 h2 => exact ⟨_, rfl, ⟨_, SqL.of (g1.cfg.sub _ _ h1)⟩, p1 _ F1 H1 _ g1 h2 (jw_list (SqL.of h1))⟩
    | _ => exact p1.elim
  | ol xs =>
    obtain ⟨p, vs, rfl, n0, f, hp, q2⟩ := q1
    have g2 := g1.freeze n0 f hp
    have s2 : Same F1 (upd F1 p (.lst vs)) := fun b u k => by rw [upd_ne (ne_of_none k f)]; exact k
    exact ⟨p, rfl, ⟨_, SqL.of hp⟩, p1 _ _ H1 vs g2 (DqA.mono s2 _ _ q2) (jw_list (SqL.of upd_same))⟩
  | sc ns =>
    obtain ⟨a, rfl, q2⟩ := q1
    exact ⟨a, rfl, ⟨_, g1.cfg.sub.seq q2⟩, p1 _ F1 H1 _ g1 (DqA.of_ints ns) (jw_list q2)⟩
  | _ => exact p1.elim
theorem vi_tup {tg : Expr} (h : VE ca W X e fa) : VI ca W X tg e (iT fa) := by
  obtain ⟨t, p, s⟩ := h
  refine ⟨_, pi_tup p, fun B F env σ H R st q => ?_⟩
  show t σ H fun x H1 => ∃ a, x = .ref a ∧ (∃ xs, SqT X.K H1 a xs) ∧ R (Itt X.K a) H1
  refine seqE (PostI X.K ca W σ F H R) s st q (fun _ _ h => h) (fun h => h) fun r F1 H1 v p1 g1 q1 => ?_
  cases r with
  | d x =>
    cases x with
    | tuple xs =>
      cases q1 with
      | tup h1 h2 => exact ⟨_, rfl, ⟨_, same_seqT g1.cfg.sub h1.1⟩, p1 _ F1 H1 _ g1 h2 (jw_tup h1.1)⟩
    | _ => exact p1.elim
  | _ => exact p1.elim
theorem vj_list {tg : Expr} (h : VE ca W X e fa) : VJ ca W X tg e (iLb fa) := by
  obtain ⟨t, p, s⟩ := h
  refine ⟨_, pi_list p, fun B F env σ H R st q => ?_⟩
  show t σ H fun x H1 => ∃ a, x = .ref a ∧ (∃ xs, SqL X.K H1 a xs) ∧ R (Itl X.K a) H1
  refine seqE (PostJ X.K ca W σ F H R) s st q (fun _ _ h => h) (fun h => h) fun r F1 H1 v p1 g1 q1 => ?_
  cases r with
  | d x =>
    cases x with
    | list xs =>
      cases q1 with
      | lst h1 h2 => exact ⟨_, rfl, ⟨_, SqL.of (g1.cfg.sub _ _ h1)⟩, p1 _ F1 H1 _ g1 h2 (jw_list (SqL.of (g1.cfg.sub _ _ h1)))⟩
    | _ => exact p1.elim
  | ol xs =>
    obtain ⟨p, vs, rfl, n0, f, hp, q2⟩ := q1
    exact ⟨p, rfl, ⟨_, SqL.of hp⟩, p1 _ _ H1 vs g1 q2 (jw_list (SqL.of hp))⟩
  | bl xs =>
    obtain ⟨p, vs, rfl, hp, q2⟩ := q1
    exact ⟨p, rfl, ⟨_, SqL.of hp⟩, p1 _ _ H1 vs g1 q2 (jw_list (SqL.of hp))⟩
  | sc ns =>
    obtain ⟨a, rfl, q2⟩ := q1
    exact ⟨a, rfl, ⟨_, g1.cfg.sub.seq q2⟩, p1 _ F1 H1 _ g1 (DqA.of_ints ns) (jw_list (g1.cfg.sub.seq q2))⟩
  | _ => exact p1.elim
theorem vj_tup {tg : Expr} (h : VE ca W X e fa) : VJ ca W X tg e (iT fa) := (vi_tup h).vj
theorem DqA.rng {K : PySem.W.Frag} {F : Hp} (lo : Int) (n : Nat) : DqA K F ((List.range n).map fun i : Nat => V.int (lo + (i : Int))) (rngL lo n) := by
  have := DqA.of_ints (K := K) (F := F) ((List.range n).map fun i : Nat => lo + (i : Int))
  rw [List.map_map, List.map_map] at this
  exact this
def gR1 : List RV → Rs (List PyData)
  | [.d (.int j)] => if j.natAbs ≤ 1000000 then .ok (rngL 0 j.toNat) else .no
  | _ => .no
def gR2 : List RV → Rs (List PyData)
  | [.d (.int i), .d (.int j)] => if i.natAbs ≤ 1000000 ∧ j.natAbs ≤ 1000000 then .ok (rngL i (j - i).toNat) else .no
  | _ => .no
def iR (g : List RV → Rs (List PyData)) (fe : VEnv → Rs (List RV)) : VEnv → Rs (List PyData) := fun env => (fe env).bind g
theorem vi_range1 {tg : Expr} {p pos : Pos} {f : VEnv → Rs (List RV)} (hg : Gl X "range") (hm : X.mg "range" = none) (ha : VA ca W X [a] f) (hs : starEach [a] X.env = [(false, eval a X.env)] := by rfl) : VI ca W X tg (.Call (.Name "range" p) [a] [] pos) (iR gR1 f) := by
  obtain ⟨t, pa, sa⟩ := ha
  refine ⟨_, pi_range1 hg hm pa hs, fun B F env σ H R st q => ?_⟩
  show t σ H fun vs H1 => ∃ j : Int, vs = [.int j] ∧ -(2 ^ 62) ≤ j ∧ j < 2 ^ 62 ∧ R (Itr 0 j.toNat) H1
  refine seqA (PostI X.K ca W σ F H R) sa st q (fun _ _ h => h) (fun h => h) fun rs F1 H1 vs p1 g1 q1 => ?_
  unfold gR1 at p1
  split at p1
  · rename_i j
    split at p1
    · rename_i hj
      cases q1 with
      | cons h1 h2 =>
        cases h2
        cases h1
        exact ⟨j, rfl, by omega, by omega, p1 _ F1 H1 _ g1 (DqA.rng 0 j.toNat) (jw_rng 0 j.toNat)⟩
    · exact p1.elim
  · exact p1.elim
theorem vi_range2 {tg : Expr} {p pos : Pos} {f : VEnv → Rs (List RV)} (hg : Gl X "range") (hm : X.mg "range" = none) (ha : VA ca W X [a, b] f) (hs : starEach [a, b] X.env = [(false, eval a X.env), (false, eval b X.env)] := by rfl) (hs2 : starEach [b] X.env = [(false, eval b X.env)] := by rfl) : VI ca W X tg (.Call (.Name "range" p) [a, b] [] pos) (iR gR2 f) := by
  obtain ⟨t, pa, sa⟩ := ha
  refine ⟨_, pi_range2 hg hm pa hs hs2, fun B F env σ H R st q => ?_⟩
  show t σ H fun vs H1 => ∃ i j : Int, vs = [.int i, .int j] ∧ (-(2 ^ 62) ≤ i ∧ i < 2 ^ 62 ∧ -(2 ^ 62) ≤ j ∧ j < 2 ^ 62) ∧ R (Itr i (j - i).toNat) H1
  refine seqA (PostI X.K ca W σ F H R) sa st q (fun _ _ h => h) (fun h => h) fun rs F1 H1 vs p1 g1 q1 => ?_
  unfold gR2 at p1
  split at p1
  · rename_i i j
    split at p1
    · rename_i hj
      cases q1 with
      | cons h1 h2 =>
        cases h2 with
        | cons h3 h4 =>
          cases h4
          cases h1
          cases h3
          exact ⟨i, j, rfl, by omega, p1 _ F1 H1 _ g1 (DqA.rng i _) (jw_rng i _)⟩
    · exact p1.elim
  · exact p1.elim

/-! ### targets -/
inductive Tg where
  | nm (i : Nat) | tp (is : List Nat)
def tgEs : List Nat → List PyData → VEnv → Option VEnv
  | [], [], env => some env
  | i :: is, x :: xs, env => if i < env.length then tgEs is xs (env.set i (some (.d x))) else none
  | _, _, _ => none
def tgE : Tg → PyData → VEnv → Option VEnv
  | .nm i, x, env => if i < env.length then some (env.set i (some (.d x))) else none
  | .tp is, .tuple xs, env => tgEs is xs env
  | .tp _, _, _ => none
def gNms : List Nat → TGs
  | [] => gNil
  | i :: is => gCons (gName i) (gNms is)
def tgT (K : PySem.W.Frag) : Tg → TG
  | .nm i => gName i
  | .tp is => gTup K is.length (gNms is)
def setAll : List Nat → List V → L2.St → L2.St
  | i :: is, v :: vs, σ => setAll is vs (σ.set i (some v))
  | _, _, σ => σ
theorem StOk.putD {K : PySem.W.Frag} {B : Base} {F H : Hp} {env : VEnv} {σ : L2.St} (st : StOk K ca B F env σ H) {i : Nat} (hi : i < env.length) {v : V} {x : PyData} (q : Dq K F v x) : StOk K ca B F (env.set i (some (.d x))) (σ.set i (some v)) H :=
  st.put0 hi q rfl rfl
theorem snd_tgs {K : PySem.W.Frag} {B : Base} {F H : Hp} : ∀ {is : List Nat} {xs : List PyData} {vs : List V} {env env' : VEnv} {σ : L2.St} {Q : L2.St → Hp → Prop}, StOk K ca B F env σ H → DqA K F vs xs → tgEs is xs env = some env' → (StOk K ca B F env' (setAll is vs σ) H → Q (setAll is vs σ) H) → gNms is vs σ H Q
  | [], [], _, env, env', σ, Q, st, q, e, h => by cases q; cases e; exact ⟨rfl, h st⟩
  | [], _ :: _, _, env, env', σ, Q, st, q, e, h => by cases e
  | i :: is, [], _, env, env', σ, Q, st, q, e, h => by cases e
  | i :: is, x :: xs, _, env, env', σ, Q, st, q, e, h => by
    cases q with
    | cons h1 h2 =>
      rename_i v vs
      unfold tgEs at e
      split at e
      · rename_i hi
        exact ⟨v, vs, rfl, snd_tgs (st.putD hi h1) h2 e h⟩
      · cases e
def tgIx : Tg → List Nat
  | .nm i => [i]
  | .tp is => is
def tgSt (tg : Tg) (v : V) (vs : List V) (σ : L2.St) : L2.St := match tg with
  | .nm i => σ.set i (some v)
  | .tp is => setAll is vs σ
theorem snd_tg {K : PySem.W.Frag} {B : Base} {F H : Hp} {tg : Tg} {x : PyData} {v : V} {env env' : VEnv} {σ : L2.St} {Q : L2.St → Hp → Prop} (st : StOk K ca B F env σ H) (q : Dq K F v x) (e : tgE tg x env = some env') (h : ∀ vs, StOk K ca B F env' (tgSt tg v vs σ) H → Q (tgSt tg v vs σ) H) : tgT K tg v σ H Q := by
  cases tg with
  | nm i =>
    by_cases hi : i < env.length
    · have e' : some (env.set i (some (.d x))) = some env' := by simpa [tgE, hi] using e
      cases e'
      exact h [] (st.putD hi q)
    · simp [tgE, hi] at e
  | tp is =>
    cases x with
    | tuple xs =>
      cases q with
      | tup h1 h2 =>
        rename_i a vs
        refine ⟨a, vs, rfl, same_seqT st.cfg.sub h1.1, ?_, snd_tgs st h2 e (h vs)⟩
        rw [h2.length]
        have : ∀ (is : List Nat) (xs : List PyData) (env : VEnv), tgEs is xs env = some env' → xs.length = is.length := by
          intro is
          induction is with
          | nil => intro xs env e; cases xs with
            | nil => rfl
            | cons _ _ => cases e
          | cons i is ih => intro xs env e; cases xs with
            | nil => cases e
            | cons x xs =>
              unfold tgEs at e
              split at e
              · simp [ih xs _ e]
              · cases e
        exact this is xs env e
    | _ => cases e
structure VG (X : Cx) (target : Expr) (tg : Tg) : Prop where
  ex : PG X target (tgT X.K tg)
structure VGs (X : Cx) (es : List Expr) (is : List Nat) : Prop where
  ex : PGs X es (gNms is)
theorem vg_name {i : Nat} {x : Str} (hN : X.N.Nodup) (hi : X.N[i]? = some x) (hx : Loc X.env.scope x) (hf : X.fn x = true ∨ X.env.scope.names.lookup x = some .local := by first | exact .inl rfl | exact .inr rfl | assumption) : VG X (.Name x pos) (.nm i) := ⟨pg_name hN hi hx hf⟩
theorem vgs_nil : VGs X [] [] := ⟨pgs_nil⟩
theorem vgs_cons {i : Nat} {x : Str} {is : List Nat} (hN : X.N.Nodup) (hi : X.N[i]? = some x) (hx : Loc X.env.scope x) (h2 : VGs X es is) (hf : X.fn x = true ∨ X.env.scope.names.lookup x = some .local := by first | exact .inl rfl | exact .inr rfl | assumption)
    (hs : (assignEach (.Name x pos :: es) X.env).map (·.2) = assign (.Name x pos) X.env :: (assignEach es X.env).map (·.2) := by rfl) : VGs X (.Name x pos :: es) (i :: is) := ⟨pgs_cons (pg_name hN hi hx hf) h2.ex hs⟩
theorem vg_tup {k : Nat} {is : List Nat} (hc : X.calm = true) (h : VGs X es is) (hn : (assignEach es X.env).length = is.length := by rfl) (hst : (assignEach es X.env).findIdx? (·.1) = none := by rfl) : VG X (.Tuple es k pos) (.tp is) := ⟨pg_tup hc h.ex hn hst⟩
/-- a, b = e -/
def sUnp (tg : Tg) (fe : VEnv → Rs RV) : VEnv → Out := fun env => (fe env).out env fun r => match r.toD with
  | some x => (match tgE tg x env with | some env' => .nx env' | none => .no)
  | none => .no
theorem vs_unp {tg : Expr} {g : Tg} (he : VE ca W X e fa) (hg : VG X tg g) (hs : swapsWithSole [tg] e pos.line X.env = pure false := by rfl) (hw : swappedStores [tg] e X.env = pure none := by rfl)
    (h1 : (assignEach [tg] X.env).map (·.2) = [assign tg X.env] := by rfl) : VS ca W X (.Assign [tg] e pos) (sUnp g fa) := by
  obtain ⟨t, pe, se⟩ := he
  refine ⟨_, ps_asg pe hg.ex hs hw h1, fun B F env σ H D st p => ?_⟩
  show t σ H fun x H1 => tgT X.K g x σ H1 D.nx
  refine outE se st p fun r F1 H1 v p1 gg q => ?_
  cases e1 : r.toD with
  | none => rw [e1] at p1; exact p1.elim
  | some x =>
    rw [e1] at p1
    obtain ⟨F2, g2, s2, q2⟩ := frz gg (Fz.of q e1)
    simp only at p1
    cases e2 : tgE g x env with
    | none => rw [e2] at p1; exact p1.elim
    | some env' => rw [e2] at p1; exact snd_tg (st.grow g2) q2 e2 fun vs st' => p1 F2 _ H1 s2 st'

/-! ### for -/
def loopF (tg : Tg) (f : VEnv → Out) : List PyData → VEnv → Out
  | [], env => .nx env
  | x :: xs, env => match tgE tg x env with
    | none => .no
    | some e1 => match f e1 with
      | .nx e => loopF tg f xs e
      | .ct e => loopF tg f xs e
      | .bk e => .nx e
      | o => o
def sFor (tg : Tg) (src : VEnv → Rs (List PyData)) (f : VEnv → Out) : VEnv → Out := fun env => (src env).out env fun xs => loopF tg f xs env
theorem drop_cons {α : Type} {xs : List α} {i : Nat} {x : α} (h : xs[i]? = some x) : xs.drop i = x :: xs.drop (i + 1) := by
  obtain ⟨h1, h2⟩ := List.getElem?_eq_some_iff.mp h
  rw [← h2]
  exact List.drop_eq_getElem_cons h1
theorem vs_for {tg iter : Expr} {body : List Stmt} {src : VEnv → Rs (List PyData)} {g : Tg} (hp : PassesOwn (model X.prog X.w) X.A X.env X.xe) (hc : X.calm = true) (hi : VI ca W X tg iter src) (hg : VG X tg g) (hb : VSs ca W X body f)
    (hs : ∀ x, foldedSetIterable iter X.env x = pure x := by intro _; rfl) : VS ca W X (.For tg iter body [] pos) (sFor g src f) := by
  obtain ⟨t, pi, si⟩ := hi
  obtain ⟨tb, pb, sb⟩ := hb
  refine ⟨_, ps_for hp hc pi hg.ex pb hs, fun B F env σ H D st p => ?_⟩
  refine si B F env σ H _ st ?_
  unfold sFor at p
  cases e : src env with
  | no => rw [e] at p; exact p
  | ex c fs => rw [e] at p; exact exOut st p
  | ok xs =>
    rw [e] at p
    intro J F1 H1 vs g1 d1 jw
    refine ⟨fun i m σ H => m = vs.length - i ∧ i ≤ vs.length ∧ ∃ F' env', Same F1 F' ∧ StOk X.K ca B F' env' σ H ∧ PostS X.K ca W B F' D (loopF g f (xs.drop i) env'), ⟨_, rfl, Nat.zero_le _, F1, env, Same.refl _, st.grow g1, PostS.mono g1.ff p⟩, ?_⟩
    rintro i m σ2 H2 ⟨rfl, hi, F2, env2, s2, st2, p2⟩
    have s3 : Same F1 H2 := s2.trans st2.cfg.sub
    by_cases hlt : i < vs.length
    · obtain ⟨x, hx, qx⟩ := DqA.get' d1 (List.getElem?_eq_getElem hlt)
      rw [drop_cons hx] at p2
      unfold loopF at p2
      refine .inr ⟨jw.go i H2 s3.n hlt, fun σ' H' => ∃ F' env', Same F1 F' ∧ StOk X.K ca B F' env' σ' H' ∧ PostS X.K ca W B F' D (loopF g f (xs.drop (i + 1)) env'), fun σ' H' z => ⟨vs.length - (i + 1), by omega, rfl, hlt, z⟩, fun y H' hy => ?_⟩
      obtain ⟨rfl, e2⟩ := jw.yld i H2 y H' s3.n hy hlt
      rw [List.getElem?_eq_getElem hlt] at e2
      cases e2
      cases e3 : tgE g x env2 with
      | none => rw [e3] at p2; exact p2.elim
      | some env3 =>
        rw [e3] at p2
        simp only at p2
        refine snd_tg st2 (qx.mono s2) e3 fun ws st3 => ?_
        refine sb B F2 env3 _ _ _ st3 ?_
        cases e4 : f env3 with
        | nx env' => rw [e4] at p2; exact fun F' σ' H' s st' => ⟨F', env', s2.trans s, st', PostS.mono s p2⟩
        | ct env' => rw [e4] at p2; exact fun F' σ' H' s st' => ⟨F', env', s2.trans s, st', PostS.mono s p2⟩
        | bk env' => rw [e4] at p2; exact p2
        | rt r => rw [e4] at p2; exact p2
        | rm o d => rw [e4] at p2; exact p2
        | rp x fs d => rw [e4] at p2; exact p2
        | ex c fs env' => rw [e4] at p2; exact p2
        | no => rw [e4] at p2; exact p2
    · have e5 : i = vs.length := by omega
      subst e5
      rw [List.drop_eq_nil_of_le (by rw [d1.length]; exact Nat.le_refl _)] at p2
      exact .inl ⟨jw.stop H2 s3.n, p2 F2 σ2 H2 (Same.refl _) st2⟩
end
end VL

namespace VL
open PySem PySem.Spec PyProof.Rows L2

/-- inside a comprehension nothing may be raised -/
abbrev W0 : WX := fun _ _ _ _ => False
section
variable {ca : CA} {W : WX} {X : Cx} {a b e : Expr} {es : List Expr} {fa fb : VEnv → Rs RV} {pos : Pos} {st : Stmt} {rest : List Stmt} {f g : VEnv → Out}
/-! ## list comprehensions -/
def wipeE (env : VEnv) : List Nat → VEnv
  | [] => env
  | v :: vs => (wipeE env vs).set v none
theorem wipe_ok {K : PySem.W.Frag} {B : Base} {F H : Hp} {env : VEnv} {σ : L2.St} (st : StOk K ca B F env σ H) : ∀ vs : List Nat, StOk K ca B F (wipeE env vs) (wipe σ vs) H
  | [] => st
  | v :: vs => (wipe_ok st vs).drop v
theorem wipe_get {σ : L2.St} {i : Nat} {vs : List Nat} (h : i ∈ vs) : (wipe σ vs)[i]? = some none ∨ (wipe σ vs)[i]? = none := by
  cases e : (wipe σ vs)[i]? with
  | none => exact .inr rfl
  | some o =>
    cases o with
    | none => exact .inl rfl
    | some v => exact absurd h (wipe_some e).2
theorem wipe_all {σ σ' : L2.St} {vs : List Nat} (hl : σ'.length = σ.length) (h : ∀ i, i ∉ vs → σ'[i]? = σ[i]?) : wipe σ' vs = wipe σ vs := by
  apply List.ext_getElem?
  intro i
  by_cases hi : i ∈ vs
  · have l1 := wipe_length σ' vs
    have l2 := wipe_length σ vs
    rcases wipe_get (σ := σ') hi with h1 | h1 <;> rcases wipe_get (σ := σ) hi with h2 | h2
    · rw [h1, h2]
    · have a1 := (List.getElem?_eq_some_iff.mp h1).1
      have a2 := List.getElem?_eq_none_iff.mp h2
      omega
    · have a1 := (List.getElem?_eq_some_iff.mp h2).1
      have a2 := List.getElem?_eq_none_iff.mp h1
      omega
    · rw [h1, h2]
  · rw [wipe_out hi, wipe_out hi]
    exact h i hi
theorem wipe_wipe {σ : L2.St} (vs : List Nat) : wipe (wipe σ vs) vs = wipe σ vs := wipe_all (wipe_length σ vs) fun i hi => wipe_out hi
theorem setAll_len : ∀ (is : List Nat) (vs : List V) (σ : L2.St), (setAll is vs σ).length = σ.length
  | [], _, σ => by unfold setAll; rfl
  | i :: is, [], σ => by unfold setAll; rfl
  | i :: is, v :: vs, σ => by unfold setAll; rw [setAll_len is vs]; simp
theorem setAll_get : ∀ (is : List Nat) (vs : List V) (σ : L2.St) (j : Nat), j ∉ is → (setAll is vs σ)[j]? = σ[j]?
  | [], _, σ, j, _ => by unfold setAll; rfl
  | i :: is, [], σ, j, _ => by unfold setAll; rfl
  | i :: is, v :: vs, σ, j, h => by
    unfold setAll
    rw [setAll_get is vs _ j (fun z => h (List.mem_cons_of_mem _ z)), List.getElem?_set_ne (fun z => h (by subst z; exact List.mem_cons_self))]
theorem tgSt_wipe {tg : Tg} {v : V} {vs : List V} {σ : L2.St} {own : List Nat} (h : ∀ i ∈ tgIx tg, i ∈ own) : wipe (tgSt tg v vs (wipe σ own)) own = wipe σ own := by
  rw [← wipe_wipe (σ := σ) own]
  cases tg with
  | nm i =>
    rw [wipe_wipe]
    refine (wipe_all (σ' := (wipe σ own).set i (some v)) (σ := wipe σ own) (by simp) fun j hj => ?_).trans (wipe_wipe own)
    have hij : i ≠ j := fun z => by subst z; exact hj (h i (by simp [tgIx]))
    rw [List.getElem?_set_ne hij]
  | tp is =>
    rw [wipe_wipe]
    refine (wipe_all (σ' := setAll is vs (wipe σ own)) (σ := wipe σ own) (setAll_len is vs _) fun j hj => ?_).trans (wipe_wipe own)
    exact setAll_get is vs _ j fun z => hj (h j z)
/-- the ifs -/
structure VTs (ca : CA) (W : WX) (X : Cx) (ifs : List Expr) (f : VEnv → Rs Bool) : Prop where
  ex : ∃ t, PTs X ifs t ∧ SndT X.K ca W t f
def bYes : VEnv → Rs Bool := fun _ => .ok true
theorem vts_nil : VTs ca W X [] bYes := ⟨_, pts_nil, fun _ _ _ _ _ _ st p => p _ _ (Grow.refl st.cfg)⟩
theorem vts_one {c : Expr} {t : VEnv → Rs Bool} (h : VT ca W X c t) : VTs ca W X [c] t := by
  obtain ⟨t, pe, se⟩ := h
  exact ⟨_, pts_one pe, se⟩
def lcF (tg : Tg) (t : VEnv → Rs Bool) (fe : VEnv → Rs RV) (env : VEnv) : List PyData → Rs (List PyData)
  | [] => .ok []
  | x :: xs => match tgE tg x env with
    | none => .no
    | some e1 => match t e1 with
      | .ok true => (match fe e1 with
        | .ok r => (match r.toD with
          | some d => (lcF tg t fe env xs).bind fun ds => .ok (d :: ds)
          | none => .no)
        | _ => .no)
      | .ok false => lcF tg t fe env xs
      | _ => .no
theorem lcF_ex {tg : Tg} {t : VEnv → Rs Bool} {fe : VEnv → Rs RV} {env : VEnv} {c : Nat} {fs : List (Str × PyData)} : ∀ xs : List PyData, lcF tg t fe env xs ≠ .ex c fs
  | [], h => by cases h
  | x :: xs, h => by
    have ih := lcF_ex (tg := tg) (t := t) (fe := fe) (env := env) (c := c) (fs := fs) xs
    unfold lcF at h
    split at h
    · cases h
    · split at h
      · split at h
        · split at h
          · cases e : lcF tg t fe env xs with
            | ok ds => rw [e] at h; cases h
            | ex c' fs' => rw [e] at h; simp at h; exact ih (by rw [e, h.1, h.2])
            | no => rw [e] at h; cases h
          · cases h
        · cases h
      · exact ih h
      · cases h
theorem lcF_len {tg : Tg} {t : VEnv → Rs Bool} {fe : VEnv → Rs RV} {env : VEnv} : ∀ (xs ds : List PyData), lcF tg t fe env xs = .ok ds → ds.length ≤ xs.length
  | [], ds, h => by cases h; simp
  | x :: xs, ds, h => by
    unfold lcF at h
    split at h
    · cases h
    · split at h
      · split at h
        · split at h
          · cases e : lcF tg t fe env xs with
            | ok es =>
              rw [e] at h
              have := lcF_len xs es e
              simp at h
              subst h
              simp
              exact this
            | ex c' fs' => rw [e] at h; cases h
            | no => rw [e] at h; cases h
          · cases h
        · cases h
      · have := lcF_len xs ds h
        simp; omega
      · cases h
def cLc (src : VEnv → Rs (List PyData)) (own : List Nat) (tg : Tg) (t : VEnv → Rs Bool) (fe : VEnv → Rs RV) : VEnv → Rs RV := fun env => (src env).bind fun xs => if xs.length ≤ 1000000 then (lcF tg t fe (wipeE env own) xs).bind fun ds => .ok (.ol ds) else .no
theorem million {n : Nat} (h : n ≤ 1000000) : n < sizeLine := Nat.lt_of_le_of_lt h (by decide)
theorem snd_lc {K : PySem.W.Frag} {wi : TI} {tt : TT} {te : TE} {src : VEnv → Rs (List PyData)} {own : List Nat} {tg : Tg} {t : VEnv → Rs Bool} {fe : VEnv → Rs RV} (ho : ∀ i ∈ tgIx tg, i ∈ own) (si : SndJ K ca W wi src) (s1 : SndT K ca W0 tt t) (s2 : SndE K ca W0 te fe) :
    SndE K ca W (tLc wi (tgT K tg) tt te own) (cLc src own tg t fe) := by
  intro B F env σ H Q st p
  refine si B F env σ H _ st ?_
  unfold cLc at p
  cases e : src env with
  | no => rw [e] at p; exact p
  | ex c fs => rw [e] at p; exact p
  | ok xs =>
    rw [e] at p
    simp only [Rs.bind_ok] at p
    split at p
    · rename_i hz
      cases e2 : lcF tg t fe (wipeE env own) xs with
      | no => rw [e2] at p; exact p.elim
      | ex c fs => exact absurd e2 (lcF_ex xs)
      | ok res =>
        rw [e2] at p
        intro J F1 H1 vs g1 d1 jw D nD
        have stw : StOk K ca B F1 (wipeE env own) (wipe σ own) H1 := wipe_ok (st.grow g1) own
        have fD : F1 D = none := same_none g1.cfg.sub nD
        refine ⟨fun i m H => m = vs.length - i ∧ i ≤ vs.length ∧ ∃ F' acc ds rs, Grow F1 H1 F' H ∧ F' D = none ∧ H D = some (.lst acc) ∧ DqA K F' acc ds ∧ lcF tg t fe (wipeE env own) (xs.drop i) = .ok rs ∧ ds ++ rs = res ∧ ds.length ≤ i,
          ⟨_, rfl, Nat.zero_le _, F1, [], [], res, Grow.newO g1.cfg _ nD (fun _ z => by cases z), fD, upd_same, .nil, e2, rfl, Nat.le_refl _⟩, ?_⟩
        rintro i m H2 ⟨rfl, hi, F2, acc, ds, rs, g2, f2, hD, q2, er, es, dl⟩
        by_cases hlt : i < vs.length
        · obtain ⟨x, hx, qx⟩ := DqA.get' d1 (List.getElem?_eq_getElem hlt)
          rw [drop_cons hx] at er
          unfold lcF at er
          refine .inr ⟨jw.go i H2 g2.hh hlt, fun H => i + 1 ≤ vs.length ∧ ∃ F' acc ds rs, Grow F1 H1 F' H ∧ F' D = none ∧ H D = some (.lst acc) ∧ DqA K F' acc ds ∧ lcF tg t fe (wipeE env own) (xs.drop (i + 1)) = .ok rs ∧ ds ++ rs = res ∧ ds.length ≤ i + 1,
            fun H' z => ⟨vs.length - (i + 1), by omega, rfl, z.1, z.2⟩, fun y H' hy => ?_⟩
          obtain ⟨rfl, e5⟩ := jw.yld i H2 y H' g2.hh hy hlt
          rw [List.getElem?_eq_getElem hlt] at e5
          cases e5
          cases e3 : tgE tg x (wipeE env own) with
          | none => rw [e3] at er; cases er
          | some env3 =>
            rw [e3] at er
            simp only at er
            refine snd_tg (stw.grow g2) (qx.mono g2.ff) e3 fun ws st3 => ⟨tgSt_wipe ho, ?_⟩
            refine s1 B F2 env3 _ _ _ st3 ?_
            cases e4 : t env3 with
            | no => rw [e4] at er; cases er
            | ex c fs => rw [e4] at er; cases er
            | ok b =>
              rw [e4] at er
              intro F4 H4 g4
              have f4 : F4 D = none := g4.stillFree f2 hD
              cases b with
              | false =>
                rw [if_neg Bool.false_ne_true]
                exact ⟨hlt, F4, acc, ds, rs, g2.trans g4, f4, g4.hh _ _ hD, DqA.mono g4.ff _ _ q2, er, es, by omega⟩
              | true =>
                rw [if_pos rfl]
                simp only at er
                refine s2 B F4 env3 _ H4 _ (st3.grow g4) ?_
                cases e6 : fe env3 with
                | no => rw [e6] at er; cases er
                | ex c fs => rw [e6] at er; cases er
                | ok r =>
                  rw [e6] at er
                  simp only at er
                  cases e7 : r.toD with
                  | none => rw [e7] at er; cases er
                  | some d =>
                    rw [e7] at er
                    simp only at er
                    cases e8 : lcF tg t fe (wipeE env own) (xs.drop (i + 1)) with
                    | no => rw [e8] at er; cases er
                    | ex c fs => rw [e8] at er; cases er
                    | ok rs' =>
                      rw [e8] at er
                      simp at er
                      intro F6 H6 v6 g6 q6
                      obtain ⟨F7, g7, s7, q7⟩ := frz g6 (Fz.of q6 e7)
                      have g8 : Grow F1 H1 F7 H6 := (g2.trans g4).trans g7
                      have h6 : H6 D = some (.lst acc) := g7.hh _ _ (g4.hh _ _ hD)
                      have f7 : F7 D = none := g7.stillFree f4 (g4.hh _ _ hD)
                      have qa : DqA K F7 acc ds := DqA.mono g7.ff _ _ (DqA.mono g4.ff _ _ q2)
                      have al : acc.length = ds.length := qa.length
                      refine ⟨acc, h6, million (by have := d1.length; omega), hlt, F7, acc ++ [v6], ds ++ [d], rs', g8.write nD f7 h6 (fun _ z => by cases z), f7, upd_same, qa.append (.cons q7 .nil), rfl, ?_, by simp; omega⟩
                      rw [← es, ← er]
                      simp
        · have e5 : i = vs.length := by omega
          subst e5
          rw [List.drop_eq_nil_of_le (by rw [d1.length]; exact Nat.le_refl _)] at er
          cases er
          rw [List.append_nil] at es
          subst es
          exact .inl ⟨jw.stop H2 g2.hh, p F2 H2 (.ref D) (g1.trans g2) ⟨D, acc, rfl, none_n g1.hh nD, f2, hD, q2⟩⟩
    · exact p.elim
/-- the one reading of a semantic function -/
def tU (K : PySem.W.Frag) (ca : CA) (W : WX) (f : VEnv → Rs RV) : TE := fun σ H Q => ∃ B F env, StOk K ca B F env σ H ∧ PostE K ca W σ F H Q (f env)
def tUT (K : PySem.W.Frag) (ca : CA) (W : WX) (f : VEnv → Rs Bool) : TT := fun σ H Q => ∃ B F env, StOk K ca B F env σ H ∧ PostB K ca W σ F H Q (f env)
theorem VE.pe {f : VEnv → Rs RV} (h : VE ca W X e f) : PE X e (tU X.K ca W f) := by
  obtain ⟨t, p, s⟩ := h
  exact ⟨fun pins s0 σ H Q I ⟨B, F, env, st, q⟩ => p.run pins s0 σ H Q I (s B F env σ H Q st q)⟩
theorem VTs.pt {ifs : List Expr} {f : VEnv → Rs Bool} (h : VTs ca W X ifs f) : PTs X ifs (tUT X.K ca W f) := by
  obtain ⟨t, p, s⟩ := h
  exact ⟨fun pins s0 σ H Q I ⟨B, F, env, st, q⟩ => p.run pins s0 σ H Q I (s B F env σ H Q st q)⟩
theorem ve_lc {elt tg iter : Expr} {ifs : List Expr} {scope : Scope} {own : List (Str × Nat)} {src : VEnv → Rs (List PyData)} {g : Tg} {t : VEnv → Rs Bool} {fe : VEnv → Rs RV} (hc : X.calm = true) (hN : X.N.Nodup) (hi : VJ ca W X tg iter src) (ok : BlkOk X.N X.env.scope scope own) (ho : ∀ i ∈ tgIx g, i ∈ own.map (·.2))
    (hg : ∀ (s : Shared) (H : Hp) (C : Addr) (cl : List (Str × Addr)) (fp : List Addr), VG (X.blk s H scope (compEnvC scope cl C X.env) fp) tg g) (ht : ∀ (s : Shared) (H : Hp) (C : Addr) (cl : List (Str × Addr)) (fp : List Addr), VTs ca W0 (X.blk s H scope (compEnvC scope cl C X.env) fp) ifs t)
    (he : ∀ (s : Shared) (H : Hp) (C : Addr) (cl : List (Str × Addr)) (fp : List Addr), VE ca W0 (X.blk s H scope (compEnvC scope cl C X.env) fp) elt fe) (hs : ∀ x, foldedSetIterable iter X.env x = pure x := by intro _; rfl) :
    VE ca W X (.ListComp elt [⟨tg, iter, ifs, 0⟩] scope pos) (cLc src (own.map (·.2)) g t fe) := by
  obtain ⟨wi, pi, si⟩ := hi
  exact ⟨_, pe_lc hc hN pi ok (fun s H C cl fp => (show PG _ tg (tgT X.K g) from (hg s H C cl fp).ex)) (fun s H C cl fp => (show PTs _ ifs (tUT X.K ca W0 t) from (ht s H C cl fp).pt)) (fun s H C cl fp => (show PE _ elt (tU X.K ca W0 fe) from (he s H C cl fp).pe)) hs,
    snd_lc ho si (fun B F env σ H Q st q => ⟨B, F, env, st, q⟩ : SndT X.K ca W0 (tUT X.K ca W0 t) t) (fun B F env σ H Q st q => ⟨B, F, env, st, q⟩ : SndE X.K ca W0 (tU X.K ca W0 fe) fe)⟩
/-- y = [..] on one line -/
theorem vs_setLc {i : Nat} {y : Str} {py : Pos} {elt tg iter : Expr} {ifs : List Expr} {scope : Scope} {own : List (Str × Nat)} {spos : Pos} {src : VEnv → Rs (List PyData)} {g : Tg} {t : VEnv → Rs Bool} {fe : VEnv → Rs RV} (hc : X.calm = true) (hN : X.N.Nodup) (hy : X.N[i]? = some y) (hyl : X.env.scope.names.lookup y = some .local)
    (hsw : swapsWith (.ListComp elt [⟨tg, iter, ifs, 0⟩] scope pos) (some (.Name y py)) spos.line X.env = pure true) (hi : VJ ca W X tg iter src) (ok : BlkOk X.N X.env.scope scope own) (ho : ∀ i ∈ tgIx g, i ∈ own.map (·.2))
    (hg : ∀ (s : Shared) (H : Hp) (C : Addr) (cl : List (Str × Addr)) (fp : List Addr), VG (X.blk s H scope (compEnvC scope cl C X.env) fp) tg g) (ht : ∀ (s : Shared) (H : Hp) (C : Addr) (cl : List (Str × Addr)) (fp : List Addr), VTs ca W0 (X.blk s H scope (compEnvC scope cl C X.env) fp) ifs t)
    (he : ∀ (s : Shared) (H : Hp) (C : Addr) (cl : List (Str × Addr)) (fp : List Addr), VE ca W0 (X.blk s H scope (compEnvC scope cl C X.env) fp) elt fe) (hs : ∀ x, foldedSetIterable iter X.env x = pure x := by intro _; rfl) :
    VS ca W X (.Assign [.Name y py] (.ListComp elt [⟨tg, iter, ifs, 0⟩] scope pos) spos) (sSet i (cLc src (own.map (·.2)) g t fe)) := by
  obtain ⟨wi, pi, si⟩ := hi
  refine ⟨_, ps_setLc hc hN hy hyl hsw pi ok (fun s H C cl fp => (show PG _ tg (tgT X.K g) from (hg s H C cl fp).ex)) (fun s H C cl fp => (show PTs _ ifs (tUT X.K ca W0 t) from (ht s H C cl fp).pt)) (fun s H C cl fp => (show PE _ elt (tU X.K ca W0 fe) from (he s H C cl fp).pe)) hs, fun B F env σ H D st p => ?_⟩
  have se := snd_lc (own := own.map (·.2)) (W := W) ho si (fun B F env σ H Q st q => ⟨B, F, env, st, q⟩ : SndT X.K ca W0 (tUT X.K ca W0 t) t) (fun B F env σ H Q st q => ⟨B, F, env, st, q⟩ : SndE X.K ca W0 (tU X.K ca W0 fe) fe)
  show tLc wi (tgT X.K g) (tUT X.K ca W0 t) (tU X.K ca W0 fe) (own.map (·.2)) σ H fun x H1 => D.nx (σ.set i (some x)) H1
  exact outE se st p fun r F1 H1 v p1 g q => snd_put st g q p1

/-! ## defs -/
/-- what is handed to a def -/
def RV.arg : RV → RV
  | .ol xs => .d (.list xs)
  | .od xs => .bd xs
  | .ot xs => .bt xs
  | .ob _ x fs => .bo x fs
  | r => r
theorem arg1 {K : PySem.W.Frag} {F0 H0 F H F1 : Hp} {v : V} {r : RV} (g1 : Grow F0 H0 F1 H) (s1 : Same F F1) (h1 : RVok K H0 F H v r) : ∃ F', Grow F0 H0 F' H ∧ Same F1 F' ∧ RVok K H F' H v r.arg := by
  cases r with
  | d x => exact ⟨F1, g1, Same.refl _, Dq.mono s1 x v h1⟩
  | ol xs =>
    obtain ⟨F2, g2, s2, q2⟩ := frz g1 ((Fz.of h1 (d := .list xs) rfl).mono s1)
    exact ⟨F2, g2, s2, q2⟩
  | bl xs => obtain ⟨p, ws, e1, hp, q⟩ := h1; exact ⟨F1, g1, Same.refl _, p, ws, e1, hp, DqA.mono s1 _ _ q⟩
  | od xs => obtain ⟨p, ws, e1, _, _, hp, q⟩ := h1; exact ⟨F1, g1, Same.refl _, p, ws, e1, .inl hp, q.mono s1⟩
  | bd xs => obtain ⟨p, ws, e1, hp, q⟩ := h1; exact ⟨F1, g1, Same.refl _, p, ws, e1, hp, q.mono s1⟩
  | ot xs => obtain ⟨p, ws, e1, _, _, hp, q⟩ := h1; exact ⟨F1, g1, Same.refl _, p, ws, e1, hp, q.mono s1⟩
  | bt xs => obtain ⟨p, ws, e1, hp, q⟩ := h1; exact ⟨F1, g1, Same.refl _, p, ws, e1, hp, q.mono s1⟩
  | sc ns => obtain ⟨a, e1, q⟩ := h1; exact ⟨F1, g1, Same.refl _, a, e1, s1.seq q⟩
  | xo a dd c fs => obtain ⟨e1, xs, hp, q⟩ := h1; exact ⟨F1, g1, Same.refl _, e1, xs, hp, q.mono s1⟩
  | t3 x ys kvs => exact ⟨F1, g1, Same.refl _, t3_mono s1 h1⟩
  | fd kvs => exact ⟨F1, g1, Same.refl _, fd_mono s1 h1⟩
  | ob me x fs => obtain ⟨p, e1, h⟩ := h1; exact ⟨F1, g1, Same.refl _, p, e1, h.bo.to s1 rfl fun q _ ws e => e⟩
  | bo x fs => obtain ⟨p, e1, h⟩ := h1; exact ⟨F1, g1, Same.refl _, p, e1, h.to s1 rfl fun q _ ws e => e⟩
theorem arg_own (r : RV) : r.arg.own = false := by cases r <;> rfl
theorem arg_mono {K : PySem.W.Frag} {H F F' : Hp} (s : Same F F') {v : V} {r : RV} (ho : r.own = false) (h : RVok K H F H v r) : RVok K H F' H v r := by
  cases r with
  | d x => exact Dq.mono s x v h
  | bl xs => obtain ⟨p, ws, e1, hp, q⟩ := h; exact ⟨p, ws, e1, hp, DqA.mono s _ _ q⟩
  | bd xs => obtain ⟨p, ws, e1, hp, q⟩ := h; exact ⟨p, ws, e1, hp, q.mono s⟩
  | bt xs => obtain ⟨p, ws, e1, hp, q⟩ := h; exact ⟨p, ws, e1, hp, q.mono s⟩
  | sc ns => obtain ⟨a, e1, q⟩ := h; exact ⟨a, e1, s.seq q⟩
  | xo a dd c fs => obtain ⟨e1, xs, hp, q⟩ := h; exact ⟨e1, xs, hp, q.mono s⟩
  | t3 x ys kvs => exact t3_mono s h
  | fd kvs => exact fd_mono s h
  | bo x fs => obtain ⟨p, e1, h⟩ := h; exact ⟨p, e1, h.to s rfl fun q _ ws e => e⟩
  | _ => cases ho
theorem args_go {K : PySem.W.Frag} {F0 H0 F H : Hp} : ∀ {vs : List V} {rs : List RV} {F1 : Hp}, Grow F0 H0 F1 H → Same F F1 → Paired (fun v r => RVok K H0 F H v r) vs rs →
    ∃ F', Grow F0 H0 F' H ∧ Same F1 F' ∧ Paired (fun v r => RVok K H F' H v r) vs (rs.map RV.arg)
  | _, _, F1, g, s, .nil => ⟨F1, g, Same.refl _, .nil⟩
  | _, _, F1, g, s, .cons (b := r) h1 h2 => by
    obtain ⟨F2, g2, s2, q2⟩ := arg1 g s h1
    obtain ⟨F3, g3, s3, q3⟩ := args_go g2 (s.trans s2) h2
    exact ⟨F3, g3, s2.trans s3, .cons (arg_mono s3 (arg_own r) q2) q3⟩
/-- a def's promise -/
def PostF (K : PySem.W.Frag) (ca : CA) (G H : Hp) (Q : VK) (E : XK) : Rs RV → Prop
  | .ok r => ∀ G' H' v, Grow G H G' H' → RVok K H G' H' v r → Q v H'
  | .ex c fs => ∀ G' H' cls dx, Grow G H G' H' → ExOk K ca G' H' cls dx c fs → E cls dx H'
  | .no => False
def spV (K : PySem.W.Frag) (ca : CA) (n : Nat) (F : List RV → Rs RV) : Sp := fun vs H Q E => vs.length = n ∧ ∃ G rs, Cfg G H ∧ TabOk ca.T G H ∧ Paired (fun v r => RVok K H G H v r) vs rs ∧ PostF K ca G H Q E (F rs)
/-- the semantic function of a def out of that of its body; n: its slots -/
def Out.fin : Out → Rs RV
  | .nx _ => .ok (.d .none)
  | .rt r => .ok r
  | .ex c fs _ => .ex c fs
  | _ => .no
def fnD (n : Nat) (body : VEnv → Out) : List RV → Rs RV := fun rs => (body (rs.map some ++ List.replicate (n - rs.length) none)).fin
theorem start_ok {K : PySem.W.Frag} {ca : CA} {G H : Hp} {vs : List V} {rs : List RV} (N : List Str) (c : Cfg G H) (tb : TabOk ca.T G H) (h : Paired (fun v r => RVok K H G H v r) vs rs) : StOk K ca { F := G, H := H } G (rs.map some ++ List.replicate (N.length - rs.length) none) (start N vs) H := by
  have hl : vs.length = rs.length := Paired.length h
  have get : ∀ (i : Nat) (r : RV), (rs.map some ++ List.replicate (N.length - rs.length) none)[i]? = some (some r) → ∃ v, (start N vs)[i]? = some (some v) ∧ RVok K H G H v r := by
    intro i r e
    by_cases hi : i < rs.length
    · rw [List.getElem?_append_left (by simpa using hi), List.getElem?_map] at e
      have e1 : rs[i]? = some r := by
        cases z : rs[i]? with
        | none => rw [z] at e; cases e
        | some y => rw [z] at e; cases e; rfl
      have go : ∀ {vs : List V} {rs : List RV} {i : Nat}, Paired (fun v r => RVok K H G H v r) vs rs → rs[i]? = some r → ∃ v, vs[i]? = some v ∧ RVok K H G H v r := by
        intro vs rs i h
        induction h generalizing i with
        | nil => intro e; simp at e
        | cons h1 h2 ih => intro e; cases i with
          | zero => simp at e; subst e; exact ⟨_, rfl, h1⟩
          | succ i => obtain ⟨v, q1, q2⟩ := ih (i := i) (by simpa using e); exact ⟨v, by simpa using q1, q2⟩
      obtain ⟨v, q1, q2⟩ := go h e1
      refine ⟨v, ?_, q2⟩
      unfold L2.start
      rw [List.getElem?_append_left (by simpa using (by omega : i < vs.length)), List.getElem?_map, q1]
      rfl
    · rw [List.getElem?_append_right (by simpa using Nat.le_of_not_lt hi), List.getElem?_replicate] at e
      split at e
      · cases e
      · cases e
  have noOwn : ∀ (i : Nat) (r : RV), (rs.map some ++ List.replicate (N.length - rs.length) none)[i]? = some (some r) → r.own = true → False := by
    intro i r e o
    obtain ⟨v, _, q⟩ := get i r e
    cases r with
    | ol xs => obtain ⟨p, ws, _, n, _, hp, _⟩ := q; rw [n] at hp; cases hp
    | od xs => obtain ⟨p, ws, _, n, _, hp, _⟩ := q; rw [n] at hp; cases hp
    | ot xs => obtain ⟨p, ws, _, n, _, hp, _⟩ := q; rw [n] at hp; cases hp
    | ob me x fs => obtain ⟨p, _, C, dx, ws, _, hp, n, _⟩ := q; rw [n] at hp; cases hp
    | _ => cases o
  refine ⟨Grow.refl c, ?_, get, fun i r p e o z => ?_, fun i j r r' p _ e _ o _ _ => (noOwn i r e o).elim,
    ⟨tb, fun i j p q me x fs r e _ _ _ _ => (noOwn i _ e rfl).elim, fun i j p p' q me me' x x' fs fs' _ e _ _ _ _ => (noOwn i _ e rfl).elim, fun i p q x fs e z hq => ?_, fun i x fs e => (noOwn i _ e rfl).elim⟩⟩
  rotate_left
  · obtain ⟨v, e1, q⟩ := get i r e
    rw [z] at e1
    cases e1
    cases r with
    | bl xs => obtain ⟨a, ws, e2, hp, _⟩ := q; cases e2; exact ⟨_, hp⟩
    | bd xs =>
      obtain ⟨a, ws, e2, hp, _⟩ := q
      cases e2
      rcases hp with hp | ⟨o, hp⟩
      · exact ⟨_, hp⟩
      · exact ⟨_, hp⟩
    | bt xs => obtain ⟨a, ws, e2, hp, _⟩ := q; cases e2; exact ⟨_, hp⟩
    | bo x fs => obtain ⟨a, e2, C, dx, ws, _, hp, _⟩ := q; cases e2; exact ⟨_, hp⟩
    | _ => cases o
  · obtain ⟨v, e1, a, ev, h⟩ := get i _ e
    rw [z] at e1
    subst ev
    cases e1
    obtain ⟨ws, hl⟩ := h.at hq
    exact ⟨_, hl⟩
  unfold L2.start
  simp [hl]
theorem fn_ok {P : Program} {w : World} {K : PySem.W.Frag} {mg : Str → Option Value} {base : Heap} {x qual : Str} {sd : Stmt} {fA : Addr} {fd : FuncData} {N ps : List Str} {k : Nat} {body : VEnv → Out} (F : Fun K x qual sd fA fd) (S : FnScope N ps (defScope sd))
    (hb : ∀ (cdv : Value) (A : Around) (outer : List PySem.Env) (s : Shared) (H : Hp) (E : XK), Room k (A.deeper (envOfC qual (defScope sd) s.heap.objs.size fA cdv)) → Takes (cxOf (L2.CX P w) P w K mg base N qual (defScope sd) fA cdv A outer s H E) (fun cls dx _ H' => E cls dx H') →
      PassesOwn (model P w) (A.deeper (envOfC qual (defScope sd) s.heap.objs.size fA cdv)) (envOfC qual (defScope sd) s.heap.objs.size fA cdv) (cxOf (L2.CX P w) P w K mg base N qual (defScope sd) fA cdv A outer s H E).xe →
      VSs ca (fun cls dx _ H' => E cls dx H') (cxOf (L2.CX P w) P w K mg base N qual (defScope sd) fA cdv A outer s H E) (defBody sd) body) : FnOk P w K mg base (L2.CX P w) (k + 1) fA fd ps (spV K ca ps.length (fnD N.length body)) := by
  refine F.okX S (fun vs H Q E h => h.1) (fun cdv A outer s H vs Q E hr h => ?_)
  obtain ⟨hl, G, rs, c, tb, pr, q⟩ := h
  obtain ⟨t, p, sn⟩ := hb cdv A outer s H E hr (takes_of rfl rfl rfl rfl) (passes_of rfl)
  refine ⟨t, p, sn { F := G, H := H } G _ _ H _ (start_ok N c tb pr) ?_⟩
  unfold fnD at q
  generalize hB : body (rs.map some ++ List.replicate (N.length - rs.length) none) = o at q ⊢
  cases o with
  | nx env => exact fun F' σ' H' s st => q F' H' .non st.gr .non
  | rt r => exact fun F' H' v g r => q F' H' v g r
  | rm o d => exact q.elim
  | rp x fs d => exact q.elim
  | ex c fs env => exact fun F' σ' H' cls dx s st x => q F' H' cls dx st.gr x
  | bk env => exact q.elim
  | ct env => exact q.elim
  | no => exact q.elim
/-- f(e, ..) -/
theorem ve_call {fA : Addr} {fd : FuncData} {ps : List Str} {x : Str} {p : Pos} {k n : Nat} {G : List RV → Rs RV} {f : VEnv → Rs (List RV)} (Fo : FnOk X.prog X.w X.K X.mg X.base (L2.CX X.prog X.w) k fA fd ps (spV X.K ca n G)) (hr : Room k X.A) (hg : Gl X x) (hm : X.mg x = some (.ref fA)) (hk : PySem.W.keepIn X.K (.ref fA) = true) (hb : Binds X.K fd ps []) (tk : Takes X W)
    (ha : VA ca W X (e :: es) f) (hn : (e :: es).length = n := by rfl) (hdb : (x == ("__debug__" : Str)) = false := by decide) (he : starEach (e :: es) X.env = (false, eval e X.env) :: starEach es X.env := by rfl) (hpl : (backTo pos (starEach es X.env)).any (·.1) = false := by rfl) :
    VE ca W X (.Call (.Name x p) (e :: es) [] pos) (cA (fun rs => if rs.length = n then G (rs.map RV.arg) else .no) f) := by
  obtain ⟨t, pa, sa⟩ := ha
  refine ⟨_, pe_callSD Fo hr hg hm hk hb .nil (fun σ => passAt tk σ) pa hdb he hpl, fun B F env σ H Q st q => ?_⟩
  show t σ H fun vs H1 => spV X.K ca n G (vs ++ []) H1 Q (WE W σ)
  refine seqA (PostE X.K ca W σ F H Q) sa st q (fun _ _ h => h) (fun h => h) fun rs F1 H1 vs p1 g1 q1 => ?_
  rw [List.append_nil]
  split at p1
  · rename_i hl
    obtain ⟨F2, g2, s2, q2⟩ := args_go g1 (Same.refl _) q1
    refine ⟨by rw [Paired.length q1, hl], F2, _, g2.cfg, st.rg.tb.grow g2, q2, ?_⟩
    cases e1 : G (rs.map RV.arg) with
    | ok r => rw [e1] at p1; exact fun G' H' v gg rr => p1 G' H' v (g2.trans gg) (rr.older g2.hh)
    | ex c fs => rw [e1] at p1; exact fun G' H' cls dx gg x => p1 G' H' cls dx (g2.trans gg) x
    | no => rw [e1] at p1; exact p1
  · exact p1.elim
end
end VL

namespace VL
open PySem PySem.Spec PyProof.Rows L2

/-! ## reading values -/
def RV.lv : RV → Option (List PyData)
  | .d (.list xs) => some xs
  | .ol xs => some xs
  | .bl xs => some xs
  | _ => none
def RV.qv : RV → Option (List PyData)
  | .sc ns => some (ns.map .int)
  | r => r.lv
def RV.tv : RV → Option (List PyData)
  | .d (.tuple xs) => some xs
  | _ => none
def RV.data : RV → Option PyData
  | .d x => some x
  | .ol xs => some (.list xs)
  | .bl xs => some (.list xs)
  | .sc ns => some (.list (ns.map .int))
  | _ => none
section
variable {K : PySem.W.Frag} {ca : CA} {H0 F H : Hp} {v : V} {r : RV} {xs : List PyData}
theorem lv_ok (s : Same F H) (h : RVok K H0 F H v r) (e : r.lv = some xs) : ∃ p vs, v = .ref p ∧ H p = some (.lst vs) ∧ DqA K F vs xs := by
  cases r with
  | d x =>
    cases x with
    | list ys => cases e; cases h with
      | lst h1 h2 => exact ⟨_, _, rfl, s _ _ h1, h2⟩
    | _ => cases e
  | ol ys => cases e; obtain ⟨p, vs, e1, _, _, hp, q⟩ := h; exact ⟨p, vs, e1, hp, q⟩
  | bl ys => cases e; obtain ⟨p, vs, e1, hp, q⟩ := h; exact ⟨p, vs, e1, hp, q⟩
  | _ => cases e
theorem qv_ok (s : Same F H) (h : RVok K H0 F H v r) (e : r.qv = some xs) : ∃ p vs, v = .ref p ∧ SqL K H p vs ∧ DqA K F vs xs := by
  cases r with
  | sc ns => cases e; obtain ⟨a, e1, q⟩ := h; exact ⟨a, _, e1, s.seq q, DqA.of_ints ns⟩
  | d x => obtain ⟨p, vs, e1, hp, q⟩ := lv_ok s h e; exact ⟨p, vs, e1, SqL.of hp, q⟩
  | ol x => obtain ⟨p, vs, e1, hp, q⟩ := lv_ok s h e; exact ⟨p, vs, e1, SqL.of hp, q⟩
  | bl x => obtain ⟨p, vs, e1, hp, q⟩ := lv_ok s h e; exact ⟨p, vs, e1, SqL.of hp, q⟩
  | _ => cases e
theorem tv_ok (s : Same F H) (h : RVok K H0 F H v r) (e : r.tv = some xs) : ∃ p vs, v = .ref p ∧ SqT K H p vs ∧ SqN K F p vs ∧ DqA K F vs xs := by
  cases r with
  | d x =>
    cases x with
    | tuple ys => cases e; cases h with
      | tup h1 h2 => exact ⟨_, _, rfl, same_seqT s h1.1, h1, h2⟩
    | _ => cases e
  | _ => cases e
theorem data_ok {x : PyData} (s : Same F H) (h : RVok K H0 F H v r) (e : r.data = some x) : Dp K H v x := by
  cases r with
  | d y => cases e; exact Dq.dp x v (Dq.mono s x v h)
  | ol ys => cases e; obtain ⟨p, vs, e1, _, _, hp, q⟩ := h; subst e1; exact .lst (SqL.of hp) (DqA.dp _ _ (DqA.mono s _ _ q))
  | bl ys => cases e; obtain ⟨p, vs, e1, hp, q⟩ := h; subst e1; exact .lst (SqL.of hp) (DqA.dp _ _ (DqA.mono s _ _ q))
  | sc ns => cases e; obtain ⟨a, e1, q⟩ := h; subst e1; exact .lst (s.seq q) (DqA.dp _ _ (DqA.of_ints (F := H) ns))
  | _ => cases e
theorem atI_dq {vs : List V} {i : Int} {d : PyData} (h : DqA K F vs xs) (e : atI xs i = some d) : ∃ w, atI vs i = some w ∧ Dq K F w d := by
  unfold atI at e ⊢
  rw [h.length]
  cases z : ixN xs.length i with
  | none => rw [z] at e; cases e
  | some j => rw [z] at e; exact h.get e
instance dCMul (i j : Int) : Decidable (CMul i j) := inferInstanceAs (Decidable ((-(2 ^ 64) < i ∧ i < 2 ^ 64) ∨ (-(2 ^ 64) < j ∧ j < 2 ^ 64)))
instance dCDiv (i j : Int) : Decidable (CDiv i j) := inferInstanceAs (Decidable (0 < j ∧ j < 1073741824))
instance dCPow (i j : Int) : Decidable (CPow i j) := inferInstanceAs (Decidable (0 ≤ j ∧ j ≤ 1000000 ∧ i.natAbs < 2 ^ 64))
/-! ### numbers -/
def RV.i2 (f : Int → Int → Rs RV) : RV → RV → Rs RV
  | .d (.int i), .d (.int j) => f i j
  | _, _ => .no
def okI (i : Int) : Rs RV := .ok (.d (.int i))
def okB (b : Bool) : Rs RV := .ok (.d (.bool b))
theorem snd_i2 {C : Int → Int → Prop} [∀ i j, Decidable (C i j)] {g : Int → Int → Int} : Op2S K ca (rI C fun i j => .int (g i j)) (RV.i2 fun i j => if C i j then okI (g i j) else .no) := by
  intro W σ F0 H0 F H v1 v2 a b Q gr h1 h2 p
  cases a with
  | d x => cases b with
    | d y => cases x with
      | int i => cases y with
        | int j =>
          cases h1; cases h2
          simp only [RV.i2] at p
          split at p
          · rename_i c; exact ⟨i, j, rfl, rfl, c, p F H _ gr (.int _)⟩
          · exact p.elim
        | _ => exact p.elim
      | _ => exact p.elim
    | _ => cases x <;> exact p.elim
  | _ => exact p.elim
theorem snd_i20 {g : Int → Int → V} {g' : Int → Int → PyData} (hg : ∀ (F : Hp) i j, Dq K F (g i j) (g' i j)) : Op2S K ca (rI0 g) (RV.i2 fun i j => .ok (.d (g' i j))) := by
  intro W σ F0 H0 F H v1 v2 a b Q gr h1 h2 p
  cases a with
  | d x => cases b with
    | d y => cases x with
      | int i => cases y with
        | int j => cases h1; cases h2; exact ⟨i, j, rfl, rfl, p F H _ gr (hg _ _ _)⟩
        | _ => exact p.elim
      | _ => exact p.elim
    | _ => cases x <;> exact p.elim
  | _ => exact p.elim
def gSub := RV.i2 fun i j => okI (i - j)
def gMul := RV.i2 fun i j => if i.natAbs < 18446744073709551616 ∨ j.natAbs < 18446744073709551616 then okI (i * j) else .no
def gMod := RV.i2 fun i j => if 0 < j then okI (i % j) else .no
def gDiv := RV.i2 fun i j => if 0 < j ∧ j.natAbs < 1073741824 then okI (i / j) else .no
def gPow := RV.i2 fun i j => if 0 ≤ j ∧ j ≤ 1000000 ∧ i.natAbs < 2 ^ 64 then okI (i ^ j.toNat) else .no
def gLt := RV.i2 fun i j => okB (decide (i < j))
def gLe := RV.i2 fun i j => okB (decide (i ≤ j))
def gGt := RV.i2 fun i j => okB (decide (j < i))
def gGe := RV.i2 fun i j => okB (decide (j ≤ i))
theorem s_sub : Op2S K ca (rI0 fun i j => .int (i - j)) gSub := snd_i20 fun _ _ _ => .int _
theorem rI_weak {C C' : Int → Int → Prop} {g : Int → Int → V} {G : RV → RV → Rs RV} (h : ∀ i j, C i j → C' i j) (s : Op2S K ca (rI C g) G) : Op2S K ca (rI C' g) G := by
  intro W σ F0 H0 F H v1 v2 a b Q gr h1 h2 p
  obtain ⟨i, j, e1, e2, c, q⟩ := s W σ F0 H0 F H v1 v2 a b Q gr h1 h2 p
  exact ⟨i, j, e1, e2, h i j c, q⟩
theorem s_div : Op2S K ca (rI CDiv fun i j => .int (i / j)) gDiv :=
  rI_weak (C := fun i j => 0 < j ∧ j.natAbs < 1073741824) (fun i j h => by unfold CDiv; omega) snd_i2
theorem s_mul : Op2S K ca (rI CMul fun i j => .int (i * j)) gMul :=
  rI_weak (C := fun i j => i.natAbs < 18446744073709551616 ∨ j.natAbs < 18446744073709551616) (fun i j h => by unfold CMul; omega) snd_i2
theorem s_mod : Op2S K ca (rI (fun _ j => 0 < j) fun i j => .int (i % j)) gMod := snd_i2
theorem s_pow : Op2S K ca (rI CPow fun i j => .int (i ^ j.toNat)) gPow := by
  exact snd_i2 (C := CPow)
theorem s_lt : Op2S K ca (rI0 fun i j => .bl (decide (i < j))) gLt := snd_i20 fun _ _ _ => .bl _
theorem s_le : Op2S K ca (rI0 fun i j => .bl (decide (i ≤ j))) gLe := snd_i20 fun _ _ _ => .bl _
theorem s_gt : Op2S K ca (rI0 fun i j => .bl (decide (j < i))) gGt := snd_i20 fun _ _ _ => .bl _
theorem s_ge : Op2S K ca (rI0 fun i j => .bl (decide (j ≤ i))) gGe := snd_i20 fun _ _ _ => .bl _
def gNeg : RV → Rs RV
  | .d (.int i) => okI (-i)
  | _ => .no
theorem s_neg : Op1S K ca (rU fun i => .int (-i)) gNeg := by
  intro W σ F0 H0 F H v a Q gr h p
  cases a with
  | d x => cases x with
    | int i => cases h; exact ⟨i, rfl, p F H _ gr (.int _)⟩
    | _ => exact p.elim
  | _ => exact p.elim
/-! ### + -/
def rOr (r r' : R2) : R2 := fun x y H Q => r x y H Q ∨ r' x y H Q
theorem op_or' {X : Cx} {f : Value → Value → Sem Value} {r r' : R2} (h : OpR X f r) (h' : OpR X f r') : OpR X f (rOr r r') := by
  intro pins s σ H x y v u Q I rx ry q
  rcases q with q | q
  · exact h pins s σ H x y v u Q I rx ry q
  · exact h' pins s σ H x y v u Q I rx ry q
abbrev rStr : R2 := fun x y H Q => ∃ i j, x = .str i ∧ y = .str j ∧ i.length + j.length ≤ sizeLine ∧ Q (.str (i ++ j)) H
/-- t + u, what comes known to have no dict -/
def rCatN (K : PySem.W.Frag) : R2 := fun x y H Q => ∃ a b xs ys, x = .ref a ∧ y = .ref b ∧ SqT K H a xs ∧ SqT K H b ys ∧ xs.length + ys.length ≤ sizeLine ∧
  (xs = [] → Q (.ref b) H) ∧ (xs ≠ [] → ys = [] → Q (.ref a) H) ∧ (xs ≠ [] → ys ≠ [] → ∀ (o : Obj) p, o.dict = none → H p = none → Q (.ref p) (upd H p (.frz o (.tup (xs ++ ys)))))
theorem op_catN {X : Cx} : OpR X (binaryOp .Add) (rCatN X.K) := by
  intro pins s σ H x y v u Q I rx ry h
  obtain ⟨a, b, xs, ys, rfl, rfl, ha, hb, hz, k0, k1, k2⟩ := h
  cases rx
  cases ry
  obtain ⟨is1, r1, t1, _⟩ := I.tuple ha
  obtain ⟨is2, r2, t2, _⟩ := I.tuple hb
  by_cases hx : xs = []
  · subst hx
    cases r1
    exact cat_tup0 t1 t2 ⟨.ref b, H, I, rfl, k0 rfl⟩
  · refine HT.cat_tup t1 t2 (fun z => hx (r1.nil_iff.mp z)) (fun z => ⟨.ref a, H, I, rfl, k1 hx (r2.nil_iff.mp z)⟩) (fun z => ?_) (by rw [← r1.length, ← r2.length]; exact hz)
    have nn : H s.heap.objs.size = none := I.hok.fresh (Nat.le_refl _)
    refine ⟨.ref s.heap.objs.size, _, I.laid (t' := s.toks) (o := .frz _ (.tup (xs ++ ys))) (fun _ _ q => Heap.get?_push_of_some _ q) (Nat.le_refl _) ⟨Heap.get?_push_size _ rfl, ?_⟩, rfl, k2 hx (fun w => z (r2.nil_iff.mpr w)) _ _ rfl nn⟩
    exact ⟨by rw [List.length_append]; exact hz, _, r1.append r2, _, Heap.get?_push_size _ rfl, rfl, _, rfl⟩
def rAddA (K : PySem.W.Frag) : R2 := rOr (rI0 fun i j => .int (i + j)) (rOr rStr (rOr rCat (rCatN K)))
theorem op_addA {X : Cx} : OpR X (binaryOp .Add) (rAddA X.K) := op_or' op_add (op_or' op_add_str (op_or' op_cat op_catN))
def gAdd (a b : RV) : Rs RV := match a, b with
  | .d (.int i), .d (.int j) => okI (i + j)
  | .d (.str x), .d (.str y) => if x.length + y.length ≤ 1000000 then .ok (.d (.str (x ++ y))) else .no
  | .d (.tuple xs), .d (.tuple ys) => if xs.length + ys.length ≤ 1000000 then .ok (.d (.tuple (xs ++ ys))) else .no
  | a, b => match a.lv, b.lv with
    | some xs, some ys => if xs.length + ys.length ≤ 1000000 then .ok (.ol (xs ++ ys)) else .no
    | _, _ => .no
theorem gAdd_lv {xs ys : List PyData} {a b : RV} (e1 : a.lv = some xs) (e2 : b.lv = some ys) : gAdd a b = if xs.length + ys.length ≤ 1000000 then .ok (.ol (xs ++ ys)) else .no := by
  unfold gAdd
  split
  · cases e1
  · cases e1
  · cases e1
  · rw [e1, e2]
theorem s_add : Op2S K ca (rAddA K) gAdd := by
  intro W σ F0 H0 F H v1 v2 a b Q gr h1 h2 p
  unfold gAdd at p
  split at p
  · cases h1; cases h2; exact .inl ⟨_, _, rfl, rfl, p F H _ gr (.int _)⟩
  · cases h1; cases h2
    split at p
    · rename_i hz
      exact .inr (.inl ⟨_, _, rfl, rfl, Nat.le_of_lt (million hz), p F H _ gr (.str _)⟩)
    · exact p.elim
  · split at p
    · rename_i xs ys hz
      obtain ⟨p1, vs, rfl, a1, a1', q1⟩ := tv_ok gr.cfg.sub h1 rfl
      obtain ⟨p2, ws, rfl, a2, a2', q2⟩ := tv_ok gr.cfg.sub h2 rfl
      refine .inr (.inr (.inr ⟨p1, p2, vs, ws, rfl, rfl, a1, a2, ?_, fun e => ?_, fun e e' => ?_, fun e e' o l no hl => ?_⟩))
      · rw [q1.length, q2.length]; exact Nat.le_of_lt (million hz)
      · subst e
        have : xs = [] := by have := q1.length; cases xs with
          | nil => rfl
          | cons _ _ => simp at this
        subst this
        exact p F H _ gr (.tup a2' q2)
      · subst e'
        have : ys = [] := by have := q2.length; cases ys with
          | nil => rfl
          | cons _ _ => simp at this
        subst this
        exact p F H _ gr (by rw [List.append_nil]; exact .tup a1' q1)
      · have g2 := Grow.newF gr.cfg (.frz o (.tup (vs ++ ws))) hl
        exact p _ _ _ (gr.trans g2) (.tup (.frz no upd_same) ((DqA.mono g2.ff _ _ q1).append (DqA.mono g2.ff _ _ q2)))
    · exact p.elim
  · split at p
    · rename_i xs ys e1 e2
      split at p
      · rename_i hz
        obtain ⟨p1, vs, rfl, a1, q1⟩ := lv_ok gr.cfg.sub h1 e1
        obtain ⟨p2, ws, rfl, a2, q2⟩ := lv_ok gr.cfg.sub h2 e2
        refine .inr (.inr (.inl ⟨p1, p2, vs, ws, rfl, rfl, a1, a2, ?_, fun l hl => ?_⟩))
        · rw [q1.length, q2.length]; exact Nat.le_of_lt (million hz)
        · have g2 := Grow.newO gr.cfg (.lst (vs ++ ws)) hl (fun _ z => by cases z)
          exact p _ _ _ (gr.trans g2) ⟨l, _, rfl, none_n gr.hh hl, same_none gr.cfg.sub hl, upd_same, q1.append q2⟩
      · exact p.elim
    · exact p.elim
/-! ### == and in -/
def gEq (a b : RV) : Rs RV := (rsO a.data).bind fun x => (rsO b.data).bind fun y => if SeqAt.shaped x = true ∧ SeqAt.shaped y = true then okB (PyData.eqv x y) else .no
def gNe (a b : RV) : Rs RV := (rsO a.data).bind fun x => (rsO b.data).bind fun y => if SeqAt.shaped x = true ∧ SeqAt.shaped y = true then okB (!PyData.eqv x y) else .no
theorem s_eq : Op2S K ca (rEqD K) gEq := by
  intro W σ F0 H0 F H v1 v2 a b Q gr h1 h2 p
  unfold gEq at p
  cases e1 : a.data with
  | none => rw [e1] at p; exact p.elim
  | some x => cases e2 : b.data with
    | none => rw [e1, e2] at p; exact p.elim
    | some y =>
      rw [e1, e2] at p
      simp only [rsO_some, Rs.bind_ok] at p
      split at p
      · rename_i s; exact ⟨x, y, data_ok gr.cfg.sub h1 e1, data_ok gr.cfg.sub h2 e2, s.1, s.2, p F H _ gr (.bl _)⟩
      · exact p.elim
theorem s_ne : Op2S K ca (rNeD K) gNe := by
  intro W σ F0 H0 F H v1 v2 a b Q gr h1 h2 p
  unfold gNe at p
  cases e1 : a.data with
  | none => rw [e1] at p; exact p.elim
  | some x => cases e2 : b.data with
    | none => rw [e1, e2] at p; exact p.elim
    | some y =>
      rw [e1, e2] at p
      simp only [rsO_some, Rs.bind_ok] at p
      split at p
      · rename_i s; exact ⟨x, y, data_ok gr.cfg.sub h1 e1, data_ok gr.cfg.sub h2 e2, s.1, s.2, p F H _ gr (.bl _)⟩
      · exact p.elim
def rInT (K : PySem.W.Frag) : R2 := fun x y H Q => ∃ d ds, Dp K H x d ∧ Dp K H y (.tuple ds) ∧ SeqAt.shaped d = true ∧ SeqAt.shaped (.tuple ds) = true ∧ Q (.bl (ds.any fun z => PyData.eqv z d)) H
def rNotInT (K : PySem.W.Frag) : R2 := fun x y H Q => ∃ d ds, Dp K H x d ∧ Dp K H y (.tuple ds) ∧ SeqAt.shaped d = true ∧ SeqAt.shaped (.tuple ds) = true ∧ Q (.bl (!ds.any fun z => PyData.eqv z d)) H
theorem op_inT {X : Cx} (hu : X.A.units + 65 < cLine) : OpR X (compareOp .In) (rInT X.K) := by
  intro pins s σ H x y v u Q I rx ry h
  obtain ⟨d, ds, hd, he, sd, se, q⟩ := h
  obtain ⟨as, r1⟩ := Dp.reads I d x v hd rx
  obtain ⟨bs, r2⟩ := Dp.reads I (.tuple ds) y u he ry
  exact SeqAt.in_tuple_reads r2 r1 (SeqAt.canLay_of_shaped se) (SeqAt.canLay_of_shaped sd) (PyProof.Rows.room_in_shaped sd hu) ⟨.bl _, H, I, rfl, q⟩
theorem op_notInT {X : Cx} (hu : X.A.units + 65 < cLine) : OpR X (compareOp .NotIn) (rNotInT X.K) := by
  intro pins s σ H x y v u Q I rx ry h
  obtain ⟨d, ds, hd, he, sd, se, q⟩ := h
  obtain ⟨as, r1⟩ := Dp.reads I d x v hd rx
  obtain ⟨bs, r2⟩ := Dp.reads I (.tuple ds) y u he ry
  exact SeqAt.notIn_tuple_reads r2 r1 (SeqAt.canLay_of_shaped se) (SeqAt.canLay_of_shaped sd) (PyProof.Rows.room_in_shaped sd hu) ⟨.bl _, H, I, rfl, q⟩
abbrev rSubS : R2 := fun x y H Q => ∃ i j, x = .str i ∧ y = .str j ∧ Q (.bl (!(Builtin.Str.occurrences j i 0 j.length 1).isEmpty)) H
abbrev rNSubS : R2 := fun x y H Q => ∃ i j, x = .str i ∧ y = .str j ∧ Q (.bl (!(!(Builtin.Str.occurrences j i 0 j.length 1).isEmpty))) H
def rInA (K : PySem.W.Frag) : R2 := rOr (rInD K) (rOr (rInT K) rSubS)
def rNotInA (K : PySem.W.Frag) : R2 := rOr (rNotInD K) (rOr (rNotInT K) rNSubS)
theorem op_inA {X : Cx} (hu : X.A.units + 65 < cLine) : OpR X (compareOp .In) (rInA X.K) := op_or' (op_inD hu) (op_or' (op_inT hu) op_in_str)
theorem op_notInA {X : Cx} (hu : X.A.units + 65 < cLine) : OpR X (compareOp .NotIn) (rNotInA X.K) := op_or' (op_notInD hu) (op_or' (op_notInT hu) op_notin_str)
theorem hu65 {A : Around} {k : Nat} (hr : Room k A) : A.units + 65 < cLine := by have := hr.un; omega
def gInB (a b : RV) : Rs Bool := match a, b with
  | .d (.str x), .d (.str y) => .ok (!(Builtin.Str.occurrences y x 0 y.length 1).isEmpty)
  | a, .d (.tuple ds) => (rsO a.data).bind fun x => if SeqAt.shaped x = true ∧ SeqAt.shaped (.tuple ds) = true then .ok (ds.any fun z => PyData.eqv z x) else .no
  | a, b => (rsO a.data).bind fun x => (rsO b.data).bind fun y => match y with
    | .list ds => if SeqAt.shaped x = true ∧ SeqAt.shaped (.list ds) = true then .ok (ds.any fun z => PyData.eqv z x) else .no
    | _ => .no
def gIn (a b : RV) : Rs RV := (gInB a b).bind okB
def gNotIn (a b : RV) : Rs RV := (gInB a b).bind fun k => okB (!k)
theorem gInB_sound {v1 v2 : V} {a b : RV} {α : Type} {P : Rs α → Prop} {k : Bool → Rs α} (s : Same F H) (h1 : RVok K H0 F H v1 a) (h2 : RVok K H0 F H v2 b) (hn : ¬ P .no) (p : P ((gInB a b).bind k)) :
    (∃ d ds, Dp K H v1 d ∧ Dp K H v2 (.list ds) ∧ SeqAt.shaped d = true ∧ SeqAt.shaped (.list ds) = true ∧ P (k (ds.any fun z => PyData.eqv z d))) ∨
    (∃ d ds, Dp K H v1 d ∧ Dp K H v2 (.tuple ds) ∧ SeqAt.shaped d = true ∧ SeqAt.shaped (.tuple ds) = true ∧ P (k (ds.any fun z => PyData.eqv z d))) ∨
    ∃ i j, v1 = .str i ∧ v2 = .str j ∧ P (k (!(Builtin.Str.occurrences j i 0 j.length 1).isEmpty)) := by
  unfold gInB at p
  split at p
  · cases h1; cases h2; exact .inr (.inr ⟨_, _, rfl, rfl, p⟩)
  · rename_i ds
    cases e1 : a.data with
    | none => rw [e1] at p; exact absurd p hn
    | some x =>
      rw [e1] at p
      simp only [rsO_some, Rs.bind_ok] at p
      split at p
      · rename_i z; exact .inr (.inl ⟨x, ds, data_ok s h1 e1, data_ok s h2 rfl, z.1, z.2, p⟩)
      · exact absurd p hn
  · cases e1 : a.data with
    | none => rw [e1] at p; exact absurd p hn
    | some x => cases e2 : b.data with
      | none => rw [e1, e2] at p; exact absurd p hn
      | some y =>
        rw [e1, e2] at p
        simp only [rsO_some, Rs.bind_ok] at p
        split at p
        · split at p
          · rename_i z; exact .inl ⟨x, _, data_ok s h1 e1, data_ok s h2 e2, z.1, z.2, p⟩
          · exact absurd p hn
        · exact absurd p hn
theorem s_in : Op2S K ca (rInA K) gIn := by
  intro W σ F0 H0 F H v1 v2 a b Q gr h1 h2 p
  rcases gInB_sound (P := PostE K ca W σ F0 H0 Q) gr.cfg.sub h1 h2 (fun h => h) p with ⟨d, ds, q1, q2, q3, q4, q5⟩ | ⟨d, ds, q1, q2, q3, q4, q5⟩ | ⟨i, j, e1, e2, q5⟩
  · exact .inl ⟨d, ds, q1, q2, q3, q4, q5 F H _ gr (.bl _)⟩
  · exact .inr (.inl ⟨d, ds, q1, q2, q3, q4, q5 F H _ gr (.bl _)⟩)
  · exact .inr (.inr ⟨i, j, e1, e2, q5 F H _ gr (.bl _)⟩)
theorem s_notIn : Op2S K ca (rNotInA K) gNotIn := by
  intro W σ F0 H0 F H v1 v2 a b Q gr h1 h2 p
  rcases gInB_sound (P := PostE K ca W σ F0 H0 Q) gr.cfg.sub h1 h2 (fun h => h) p with ⟨d, ds, q1, q2, q3, q4, q5⟩ | ⟨d, ds, q1, q2, q3, q4, q5⟩ | ⟨i, j, e1, e2, q5⟩
  · exact .inl ⟨d, ds, q1, q2, q3, q4, q5 F H _ gr (.bl _)⟩
  · exact .inr (.inl ⟨d, ds, q1, q2, q3, q4, q5 F H _ gr (.bl _)⟩)
  · exact .inr (.inr ⟨i, j, e1, e2, q5 F H _ gr (.bl _)⟩)
/-- is None -/
def isNone : RV → Bool
  | .d .none => true
  | _ => false
def gIs (a b : RV) : Rs RV := match b with
  | .d .none => okB (isNone a)
  | _ => .no
def gIsNot (a b : RV) : Rs RV := match b with
  | .d .none => okB (!isNone a)
  | _ => .no
theorem isNone_ok (h : RVok K H0 F H v r) : decide (v = .non) = isNone r := by
  cases r with
  | d x => cases x <;> cases h <;> rfl
  | ol xs => obtain ⟨p, vs, rfl, _⟩ := h; rfl
  | bl xs => obtain ⟨p, vs, rfl, _⟩ := h; rfl
  | od xs => obtain ⟨p, vs, rfl, _⟩ := h; rfl
  | bd xs => obtain ⟨p, vs, rfl, _⟩ := h; rfl
  | ot xs => obtain ⟨p, vs, rfl, _⟩ := h; rfl
  | bt xs => obtain ⟨p, vs, rfl, _⟩ := h; rfl
  | sc ns => obtain ⟨a, rfl, _⟩ := h; rfl
  | xo a dd c fs => obtain ⟨rfl, _⟩ := h; rfl
  | t3 x ys kvs => obtain ⟨p, w, l, d, vs, us, rfl, _⟩ := h; rfl
  | fd kvs => obtain ⟨p, us, rfl, _⟩ := h; rfl
  | ob me x fs => obtain ⟨p, rfl, _⟩ := h; rfl
  | bo x fs => obtain ⟨p, rfl, _⟩ := h; rfl
theorem s_is : Op2S K ca (fun x y H Q => y = .non ∧ Q (.bl (decide (x = .non))) H) gIs := by
  intro W σ F0 H0 F H v1 v2 a b Q gr h1 h2 p
  unfold gIs at p
  split at p
  · cases h2; exact ⟨rfl, by rw [isNone_ok h1]; exact p F H _ gr (.bl _)⟩
  · exact p.elim
theorem s_isNot : Op2S K ca (fun x y H Q => y = .non ∧ Q (.bl (!decide (x = .non))) H) gIsNot := by
  intro W σ F0 H0 F H v1 v2 a b Q gr h1 h2 p
  unfold gIsNot at p
  split at p
  · cases h2; exact ⟨rfl, by rw [isNone_ok h1]; exact p F H _ gr (.bl _)⟩
  · exact p.elim
/-! ### subscripts -/
def RV.sq (r : RV) : Option (List PyData) := match r with
  | .d (.tuple xs) => some xs
  | r => r.qv
def gIx (a b : RV) : Rs RV := match b with
  | .d (.int i) => (match a with
    | .d (.str z) => if z.length ≤ 1000000 then (rsO (atI z.cps.toList i)).bind fun c => .ok (.d (.str ⟨#[c]⟩)) else .no
    | a => (rsO a.sq).bind fun xs => (rsO (atI xs i)).bind fun d => .ok (.d d))
  | _ => .no
theorem s_ix : Op2S K ca (rIx K) gIx := by
  intro W σ F0 H0 F H v1 v2 a b Q gr h1 h2 p
  unfold gIx at p
  split at p
  · rename_i i
    cases h2
    split at p
    · rename_i z
      cases h1
      split at p
      · rename_i hz
        cases e : atI z.cps.toList i with
        | none => rw [e] at p; exact p.elim
        | some c => rw [e] at p; exact .inr (.inr ⟨z, i, c, rfl, rfl, Nat.le_of_lt (million hz), e, p F H _ gr (.str _)⟩)
      · exact p.elim
    · cases e : a.sq with
      | none => rw [e] at p; exact p.elim
      | some xs =>
        rw [e] at p
        simp only [rsO_some, Rs.bind_ok] at p
        cases e2 : atI xs i with
        | none => rw [e2] at p; exact p.elim
        | some d =>
          rw [e2] at p
          by_cases ht : a.tv = some xs
          · obtain ⟨p1, vs, rfl, a1, _, q1⟩ := tv_ok gr.cfg.sub h1 ht
            obtain ⟨w, e3, q3⟩ := atI_dq q1 e2
            exact .inr (.inl ⟨p1, vs, i, w, rfl, rfl, a1, e3, p F H _ gr q3⟩)
          · have eq : a.qv = some xs := by
              unfold RV.sq at e
              split at e
              · exact absurd (by exact e) ht
              · exact e
            obtain ⟨p1, vs, rfl, a1, q1⟩ := qv_ok gr.cfg.sub h1 eq
            obtain ⟨w, e3, q3⟩ := atI_dq q1 e2
            exact .inl ⟨p1, vs, i, w, rfl, rfl, a1, e3, p F H _ gr q3⟩
  · exact p.elim
/-! ### slices -/
def cutL {α : Type} (xs : List α) (lo hi : Option Int) : List α := (xs.drop (HT.sIx xs.length 0 lo)).take (HT.sIx xs.length xs.length hi - HT.sIx xs.length 0 lo)
theorem cut_dq {vs : List V} (h : DqA K F vs xs) (lo hi : Option Int) : DqA K F (cutV vs lo hi) (cutL xs lo hi) := by
  unfold cutV cutL
  rw [h.length]
  exact (h.drop _).take _
def gSl (a : RV) (lo hi : Option Int) : Rs RV := match a with
  | .d (.str z) => if z.length ≤ 1000000 then .ok (.d (.str (cutS z lo hi))) else .no
  | .d (.tuple xs) => .ok (.d (.tuple (cutL xs lo hi)))
  | a => (rsO a.qv).bind fun xs => .ok (.ol (cutL xs lo hi))
/-- t[lo:hi], what comes known to have no dict -/
def rSlN (K : PySem.W.Frag) : V → Option Int → Option Int → Hp → VK → Prop := fun x lo hi H Q => ∃ a xs, x = .ref a ∧ SqT K H a xs ∧
  (HT.sIx xs.length 0 lo = 0 ∧ HT.sIx xs.length xs.length hi = xs.length → Q (.ref a) H) ∧ (¬ (HT.sIx xs.length 0 lo = 0 ∧ HT.sIx xs.length xs.length hi = xs.length) → ∀ (o : Obj) p, o.dict = none → H p = none → Q (.ref p) (upd H p (.frz o (.tup (cutV xs lo hi)))))
theorem sl_tupN {X : Cx} : SlR X (rSlN X.K) := by
  intro pins s σ H x v vl vu lo hi sl Q I rx hs pl pu h
  obtain ⟨a, xs, rfl, hx, k1, k2⟩ := h
  cases rx
  obtain ⟨its, r, ht, hz⟩ := I.tuple hx
  have hl : its.toArray.size = xs.length := by rw [List.size_toArray]; exact r.length.symm
  refine ⟨"tuple", _, PyProof.Rows.slot_tuple_getitem.lookup, ht.typeIs, ?_⟩
  by_cases hw : HT.sIx xs.length 0 lo = 0 ∧ HT.sIx xs.length xs.length hi = xs.length
  · exact getItem_tuple_whole ht hs pl pu (by rw [hl]; exact hw) ⟨.ref a, H, I, rfl, k1 hw⟩
  · refine HT.getItem_tuple_cut ht hs pl pu (by rw [hl]; exact hw) ?_ (by rw [hl]; exact hz)
    rw [hl]
    have nn : H s.heap.objs.size = none := I.hok.fresh (Nat.le_refl _)
    refine ⟨.ref s.heap.objs.size, _, I.laid (t' := s.toks) (o := .frz _ (.tup (cutV xs lo hi))) (fun _ _ q => Heap.get?_push_of_some _ q) (Nat.le_refl _) ⟨Heap.get?_push_size _ rfl, ?_⟩, rfl, k2 hw _ _ rfl nn⟩
    exact ⟨Nat.le_trans (cutV_length xs lo hi) hz, _, (r.drop (HT.sIx xs.length 0 lo)).take (HT.sIx xs.length xs.length hi - HT.sIx xs.length 0 lo), _, Heap.get?_push_size _ rfl, rfl, _, rfl⟩
def rSlAll (K : PySem.W.Frag) : V → Option Int → Option Int → Hp → VK → Prop := fun x lo hi H Q => rSlS x lo hi H Q ∨ (rSlN K x lo hi H Q ∨ rSlL K x lo hi H Q)
theorem sl_all {X : Cx} : SlR X (rSlAll X.K) := SlR.or sl_str (SlR.or sl_tupN sl_list)
theorem s_sl {W : WX} {σ : L2.St} {F0 H0' : Hp} {lo hi : Option Int} {Q : VK} (gr : Grow F0 H0' F H) (h : RVok K H0' F H v r) (p : PostE K ca W σ F0 H0' Q (gSl r lo hi)) : rSlAll K v lo hi H Q := by
  unfold gSl at p
  split at p
  · cases h
    split at p
    · rename_i hz
      exact .inl ⟨_, rfl, Nat.le_of_lt (million hz), p F H _ gr (.str _)⟩
    · exact p.elim
  · rename_i xs
    obtain ⟨p1, vs, rfl, a1, a2, q1⟩ := tv_ok gr.cfg.sub h rfl
    refine .inr (.inl ⟨p1, vs, rfl, a1, fun e => ?_, fun e o l no hl => ?_⟩)
    · have ew : cutL xs lo hi = xs := by
        unfold cutL
        rw [q1.length] at e
        rw [e.1, e.2]
        simp
      exact p F H _ gr (by rw [ew]; exact .tup a2 q1)
    · have g2 := Grow.newF gr.cfg (.frz o (.tup (cutV vs lo hi))) hl
      exact p _ _ _ (gr.trans g2) (.tup (.frz no upd_same) (DqA.mono g2.ff _ _ (cut_dq q1 lo hi)))
  · cases e : r.qv with
    | none => rw [e] at p; exact p.elim
    | some xs =>
      rw [e] at p
      obtain ⟨p1, vs, rfl, a1, q1⟩ := qv_ok gr.cfg.sub h e
      refine .inr (.inr ⟨p1, vs, rfl, a1, fun l hl => ?_⟩)
      have g2 := Grow.newO gr.cfg (.lst (cutV vs lo hi)) hl (fun _ z => by cases z)
      exact p _ _ _ (gr.trans g2) ⟨l, _, rfl, none_n gr.hh hl, same_none gr.cfg.sub hl, upd_same, cut_dq q1 lo hi⟩
end
end VL

namespace VL
open PySem PySem.Spec PyProof.Rows L2

/-! ## built-in functions -/
section
variable {K : PySem.W.Frag} {ca : CA}
theorem pr1 {P : V → RV → Prop} {vs : List V} {r : RV} (h : Paired P vs [r]) : ∃ v, vs = [v] ∧ P v r := by
  cases h with
  | cons h1 h2 => cases h2; exact ⟨_, rfl, h1⟩
theorem pr2 {P : V → RV → Prop} {vs : List V} {r r' : RV} (h : Paired P vs [r, r']) : ∃ v w, vs = [v, w] ∧ P v r ∧ P w r' := by
  cases h with
  | cons h1 h2 => cases h2 with
    | cons h3 h4 => cases h4; exact ⟨_, _, rfl, h1, h3⟩
/-- a sequence that is read -/
theorem sq_ok {H0 F H : Hp} {v : V} {r : RV} {xs : List PyData} (s : Same F H) (h : RVok K H0 F H v r) (e : r.sq = some xs) : ∃ p vs, v = .ref p ∧ (SqL K H p vs ∨ SqT K H p vs) ∧ DqA K F vs xs := by
  by_cases ht : r.tv = some xs
  · obtain ⟨p1, vs, e1, a1, _, q1⟩ := tv_ok s h ht
    exact ⟨p1, vs, e1, .inr a1, q1⟩
  · have eq : r.qv = some xs := by
      unfold RV.sq at e
      split at e
      · exact absurd (by exact e) ht
      · exact e
    obtain ⟨p1, vs, e1, a1, q1⟩ := qv_ok s h eq
    exact ⟨p1, vs, e1, .inl a1, q1⟩
def gLen : List RV → Rs RV
  | [.d (.str z)] => if z.length ≤ 1000000 then okI z.length else .no
  | [.bd kvs] => okI kvs.length
  | [.od kvs] => okI kvs.length
  | [r] => (rsO r.sq).bind fun xs => okI xs.length
  | _ => .no
def rOrC (r r' : List V → Hp → VK → Prop) : List V → Hp → VK → Prop := fun xs H Q => r xs H Q ∨ r' xs H Q
abbrev rLenS (K : PySem.W.Frag) : List V → Hp → VK → Prop := fun xs H Q => ∃ p ys, xs = [.ref p] ∧ (SqL K H p ys ∨ SqT K H p ys) ∧ Q (.int ys.length) H
abbrev rLenT : List V → Hp → VK → Prop := fun xs H Q => ∃ z, xs = [.str z] ∧ z.length ≤ sizeLine ∧ Q (.int z.length) H
abbrev rLenD : List V → Hp → VK → Prop := fun xs H Q => ∃ p kvs, xs = [.ref p] ∧ Rd H p (.dK kvs) ∧ Q (.int kvs.length) H
theorem call_lenD' {X : Cx} : CallR X (.builtin "len") rLenD := by
  intro pins s σ H xs us Q I r h
  obtain ⟨a, kvs, rfl, ha, q⟩ := h
  obtain ⟨u, rfl, ru⟩ := vals1 r
  cases ru
  exact d_len I ha fun t s' I' => ⟨.int kvs.length, H, I', ⟨t, rfl⟩, q⟩
theorem call_lenA {X : Cx} : CallR X (.builtin "len") (fun xs H Q => rLenS X.K xs H Q ∨ (rLenT xs H Q ∨ rLenD xs H Q)) := CallR.or call_len_seq (CallR.or call_len_str call_lenD')
theorem KD.length {κ : Type} {F : Hp} : ∀ {a : List (κ × V)} {b : List (κ × PyData)}, KD K F a b → a.length = b.length := fun h => Paired.length h
theorem c_len : CaS K ca (fun xs H Q => rLenS K xs H Q ∨ (rLenT xs H Q ∨ rLenD xs H Q)) gLen := by
  intro W σ F0 H0 F H vs as Q gr h p
  unfold gLen at p
  split at p
  · obtain ⟨v, rfl, hx⟩ := pr1 h
    cases hx
    split at p
    · rename_i hz; exact .inr (.inl ⟨_, rfl, Nat.le_of_lt (million hz), p F H _ gr (.int _)⟩)
    · exact p.elim
  · obtain ⟨v, rfl, q, ks, rfl, hp, kd⟩ := pr1 h
    exact .inr (.inr ⟨q, ks, rfl, hp, by rw [kd.length]; exact p F H _ gr (.int _)⟩)
  · obtain ⟨v, rfl, q, ks, rfl, _, _, hp, kd⟩ := pr1 h
    exact .inr (.inr ⟨q, ks, rfl, .inl hp, by rw [kd.length]; exact p F H _ gr (.int _)⟩)
  · rename_i r _ _ _
    obtain ⟨v, rfl, hx⟩ := pr1 h
    cases e : r.sq with
    | none => rw [e] at p; exact p.elim
    | some xs =>
      rw [e] at p
      obtain ⟨q, ws, rfl, hq, dq⟩ := sq_ok gr.cfg.sub hx e
      exact .inl ⟨q, ws, rfl, hq, by rw [dq.length]; exact p F H _ gr (.int _)⟩
  · exact p.elim
def gTupleC : List RV → Rs RV
  | [r] => (match r.tv with
    | some xs => .ok (.d (.tuple xs))
    | none => (rsO r.qv).bind fun xs => .ok (.d (.tuple xs)))
  | _ => .no
def rTupN (K : PySem.W.Frag) : List V → Hp → VK → Prop := fun xs H Q => ∃ p ys, xs = [.ref p] ∧ ((SqL K H p ys ∧ ∀ (o : Obj) l, o.dict = none → H l = none → Q (.ref l) (upd H l (.frz o (.tup ys)))) ∨ (SqT K H p ys ∧ Q (.ref p) H))
theorem call_tupN {X : Cx} : CallR X (.type "tuple") (rTupN X.K) := by
  intro pins s σ H xs us Q I r h
  obtain ⟨p, ys, rfl, h⟩ := h
  obtain ⟨u, rfl, rx⟩ := vals1 r
  cases rx
  rcases h with ⟨hq, q⟩ | ⟨hq, q⟩
  rotate_left
  · obtain ⟨_, _, pl, _⟩ := I.tuple hq
    exact call_tuple_same pl ⟨.ref p, H, I, rfl, q⟩
  obtain ⟨its, rv, pl, hz⟩ := I.list hq
  have hl := rv.length
  refine call_tuple_list pl.isList (fun h' kp => ?_) (by simp only [List.size_toArray] <;> omega)
  have I1 : Inv X pins σ H { s with heap := h' } := I.kept (t' := s.toks) kp
  have nn : H h'.objs.size = none := I1.hok.fresh (Nat.le_refl _)
  exact ⟨.ref h'.objs.size, _, I1.laid (t' := s.toks) (o := .frz _ (.tup ys)) (fun _ _ e => Heap.get?_push_of_some _ e) (Nat.le_refl _) ⟨Heap.get?_push_size _ rfl, hz, its, rv, _, Heap.get?_push_size _ rfl, rfl, _, rfl⟩, rfl, q _ _ rfl nn⟩
theorem c_tuple : CaS K ca (rTupN K) gTupleC := by
  intro W σ F0 H0 F H vs as Q gr h p
  unfold gTupleC at p
  split at p
  · rename_i r
    obtain ⟨v, rfl, hx⟩ := pr1 h
    cases e : r.tv with
    | some xs =>
      rw [e] at p
      obtain ⟨q, ws, rfl, a1, a2, dq⟩ := tv_ok gr.cfg.sub hx e
      exact ⟨q, ws, rfl, .inr ⟨a1, p F H _ gr (.tup a2 dq)⟩⟩
    | none =>
      rw [e] at p
      simp only at p
      cases e2 : r.qv with
      | none => rw [e2] at p; exact p.elim
      | some xs =>
        rw [e2] at p
        obtain ⟨q, ws, rfl, a1, dq⟩ := qv_ok gr.cfg.sub hx e2
        refine ⟨q, ws, rfl, .inl ⟨a1, fun o l no hl => ?_⟩⟩
        have g2 := Grow.newF gr.cfg (.frz o (.tup ws)) hl
        exact p _ _ _ (gr.trans g2) (.tup (.frz no upd_same) (DqA.mono g2.ff _ _ dq))
  · exact p.elim
def gListC : List RV → Rs RV
  | [r] => (rsO r.sq).bind fun xs => .ok (.ol xs)
  | _ => .no
theorem c_list : CaS K ca (fun xs H Q => ∃ p ys, xs = [.ref p] ∧ (SqL K H p ys ∨ SqT K H p ys) ∧ ∀ l, H l = none → Q (.ref l) (upd H l (.lst ys))) gListC := by
  intro W σ F0 H0 F H vs as Q gr h p
  unfold gListC at p
  split at p
  · rename_i r
    obtain ⟨v, rfl, hx⟩ := pr1 h
    cases e : r.sq with
    | none => rw [e] at p; exact p.elim
    | some xs =>
      rw [e] at p
      obtain ⟨q, ws, rfl, hq, dq⟩ := sq_ok gr.cfg.sub hx e
      refine ⟨q, ws, rfl, hq, fun l hl => ?_⟩
      have g2 := Grow.newO gr.cfg (.lst ws) hl (fun _ z => by cases z)
      exact p _ _ _ (gr.trans g2) ⟨l, _, rfl, none_n gr.hh hl, same_none gr.cfg.sub hl, upd_same, dq⟩
  · exact p.elim
def gMin2 : List RV → Rs RV
  | [.d (.int i), .d (.int j)] => okI (if j < i then j else i)
  | _ => .no
def gMax2 : List RV → Rs RV
  | [.d (.int i), .d (.int j)] => okI (if j > i then j else i)
  | _ => .no
theorem c_min2 : CaS K ca (fun xs H Q => ∃ i j, xs = [.int i, .int j] ∧ Q (.int (if j < i then j else i)) H) gMin2 := by
  intro W σ F0 H0 F H vs as Q gr h p
  unfold gMin2 at p
  split at p
  · obtain ⟨v, w, rfl, h1, h2⟩ := pr2 h
    cases h1; cases h2
    exact ⟨_, _, rfl, p F H _ gr (.int _)⟩
  · exact p.elim
theorem c_max2 : CaS K ca (fun xs H Q => ∃ i j, xs = [.int i, .int j] ∧ Q (.int (if j > i then j else i)) H) gMax2 := by
  intro W σ F0 H0 F H vs as Q gr h p
  unfold gMax2 at p
  split at p
  · obtain ⟨v, w, rfl, h1, h2⟩ := pr2 h
    cases h1; cases h2
    exact ⟨_, _, rfl, p F H _ gr (.int _)⟩
  · exact p.elim
/-! ### lists of ints, of truth values -/
def intsD : List PyData → Option (List Int)
  | [] => some []
  | .int i :: xs => (intsD xs).map (i :: ·)
  | _ => none
def boolsD : List PyData → Option (List Bool)
  | [] => some []
  | .bool i :: xs => (boolsD xs).map (i :: ·)
  | _ => none
theorem ints_ok {F : Hp} : ∀ {xs : List PyData} {vs : List V} {ns : List Int}, DqA K F vs xs → intsD xs = some ns → vs = ns.map V.int
  | [], _, ns, h, e => by cases h; cases e; rfl
  | x :: xs, _, ns, h, e => by
    cases h with
    | cons h1 h2 =>
      cases x with
      | int i =>
        cases e2 : intsD xs with
        | none => simp [intsD, e2] at e
        | some ms => simp [intsD, e2] at e; subst e; cases h1; rw [ints_ok h2 e2]; rfl
      | _ => cases e
theorem bools_ok {F : Hp} : ∀ {xs : List PyData} {vs : List V} {ns : List Bool}, DqA K F vs xs → boolsD xs = some ns → vs = ns.map V.bl
  | [], _, ns, h, e => by cases h; cases e; rfl
  | x :: xs, _, ns, h, e => by
    cases h with
    | cons h1 h2 =>
      cases x with
      | bool i =>
        cases e2 : boolsD xs with
        | none => simp [boolsD, e2] at e
        | some ms => simp [boolsD, e2] at e; subst e; cases h1; rw [bools_ok h2 e2]; rfl
      | _ => cases e
@[simp] theorem intsD_map (ns : List Int) : intsD (ns.map .int) = some ns := by
  induction ns with
  | nil => rfl
  | cons i ns ih => simp [intsD, ih]
@[simp] theorem boolsD_map (ns : List Bool) : boolsD (ns.map .bool) = some ns := by
  induction ns with
  | nil => rfl
  | cons i ns ih => simp [boolsD, ih]
def ins (x : Int) : List Int → List Int
  | [] => [x]
  | y :: ys => if x ≤ y then x :: y :: ys else y :: ins x ys
def isort : List Int → List Int
  | [] => []
  | x :: xs => ins x (isort xs)
theorem ins_perm (x : Int) : ∀ ys, (ins x ys).Perm (x :: ys)
  | [] => .refl _
  | y :: ys => by
    unfold ins
    split
    · exact .refl _
    · exact ((ins_perm x ys).cons y).trans (.swap x y ys)
theorem isort_perm : ∀ xs, (isort xs).Perm xs
  | [] => .refl _
  | x :: xs => (ins_perm x _).trans ((isort_perm xs).cons x)
theorem ins_sorted (x : Int) : ∀ {ys : List Int}, ys.Pairwise (· ≤ ·) → (ins x ys).Pairwise (· ≤ ·)
  | [], _ => by simp [ins]
  | y :: ys, h => by
    have h1 := List.pairwise_cons.mp h
    unfold ins
    split
    · rename_i c
      refine List.pairwise_cons.mpr ⟨fun z hz => ?_, h⟩
      rcases List.mem_cons.mp hz with rfl | hz
      · exact c
      · exact Int.le_trans c (h1.1 z hz)
    · rename_i c
      refine List.pairwise_cons.mpr ⟨fun z hz => ?_, ins_sorted x h1.2⟩
      rcases List.mem_cons.mp ((ins_perm x ys).mem_iff.mp hz) with rfl | hz
      · omega
      · exact h1.1 z hz
theorem isort_sorted : ∀ xs, (isort xs).Pairwise (· ≤ ·)
  | [] => .nil
  | x :: xs => ins_sorted x (isort_sorted xs)
theorem sorted_uniq : ∀ {xs ys : List Int}, xs.Perm ys → xs.Pairwise (· ≤ ·) → ys.Pairwise (· ≤ ·) → xs = ys
  | [], ys, p, _, _ => (List.Perm.nil_eq p)
  | x :: xs, [], p, _, _ => by have := p.length_eq; simp at this
  | x :: xs, y :: ys, p, h1, h2 => by
    have a1 := List.pairwise_cons.mp h1
    have a2 := List.pairwise_cons.mp h2
    have e : x = y := by
      have m1 : x ∈ y :: ys := p.mem_iff.mp List.mem_cons_self
      have m2 : y ∈ x :: xs := p.mem_iff.mpr List.mem_cons_self
      rcases List.mem_cons.mp m1 with z | z
      · exact z
      · rcases List.mem_cons.mp m2 with z' | z'
        · exact z'.symm
        · have := a1.1 y z'; have := a2.1 x z; omega
    subst e
    rw [sorted_uniq ((List.perm_cons x).mp p) a1.2 a2.2]
def gSorted : List RV → Rs RV
  | [r] => (rsO r.qv).bind fun xs => (rsO (intsD xs)).bind fun ns => .ok (.ol ((isort ns).map .int))
  | _ => .no
theorem c_sorted : CaS K ca (rSortedI K) gSorted := by
  intro W σ F0 H0 F H vs as Q gr h p
  unfold gSorted at p
  split at p
  · rename_i r
    obtain ⟨v, rfl, hx⟩ := pr1 h
    cases e : r.qv with
    | none => rw [e] at p; exact p.elim
    | some xs =>
      rw [e] at p
      simp only [rsO_some, Rs.bind_ok] at p
      cases e2 : intsD xs with
      | none => rw [e2] at p; exact p.elim
      | some ns =>
        rw [e2] at p
        obtain ⟨q, ws, rfl, hq, dq⟩ := qv_ok gr.cfg.sub hx e
        have := ints_ok dq e2
        subst this
        refine ⟨q, ns, rfl, hq, fun ns' l pm so hl => ?_⟩
        have e3 : ns' = isort ns := sorted_uniq (pm.trans (isort_perm ns).symm) so (isort_sorted ns)
        subst e3
        have g2 := Grow.newO gr.cfg (.lst ((isort ns).map V.int)) hl (fun _ z => by cases z)
        exact p _ _ _ (gr.trans g2) ⟨l, _, rfl, none_n gr.hh hl, same_none gr.cfg.sub hl, upd_same, DqA.of_ints _⟩
  · exact p.elim
def gAny : List RV → Rs RV
  | [r] => (rsO r.qv).bind fun xs => (rsO (boolsD xs)).bind fun bs => okB (bs.any id)
  | _ => .no
def gAll : List RV → Rs RV
  | [r] => (rsO r.qv).bind fun xs => (rsO (boolsD xs)).bind fun bs => okB (bs.all id)
  | _ => .no
def gSum : List RV → Rs RV
  | [r] => (rsO r.qv).bind fun xs => (rsO (intsD xs)).bind fun bs => okI bs.sum
  | _ => .no
theorem c_any : CaS K ca (rAny K) gAny := by
  intro W σ F0 H0 F H vs as Q gr h p
  unfold gAny at p
  split at p
  · rename_i r
    obtain ⟨v, rfl, hx⟩ := pr1 h
    cases e : r.qv with
    | none => rw [e] at p; exact p.elim
    | some xs =>
      rw [e] at p
      simp only [rsO_some, Rs.bind_ok] at p
      cases e2 : boolsD xs with
      | none => rw [e2] at p; exact p.elim
      | some ns =>
        rw [e2] at p
        obtain ⟨q, ws, rfl, hq, dq⟩ := qv_ok gr.cfg.sub hx e
        have := bools_ok dq e2
        subst this
        exact ⟨q, ns, rfl, hq, p F H _ gr (.bl _)⟩
  · exact p.elim
theorem c_all : CaS K ca (rAll K) gAll := by
  intro W σ F0 H0 F H vs as Q gr h p
  unfold gAll at p
  split at p
  · rename_i r
    obtain ⟨v, rfl, hx⟩ := pr1 h
    cases e : r.qv with
    | none => rw [e] at p; exact p.elim
    | some xs =>
      rw [e] at p
      simp only [rsO_some, Rs.bind_ok] at p
      cases e2 : boolsD xs with
      | none => rw [e2] at p; exact p.elim
      | some ns =>
        rw [e2] at p
        obtain ⟨q, ws, rfl, hq, dq⟩ := qv_ok gr.cfg.sub hx e
        have := bools_ok dq e2
        subst this
        exact ⟨q, ns, rfl, hq, p F H _ gr (.bl _)⟩
  · exact p.elim
theorem c_sum : CaS K ca (rSum K) gSum := by
  intro W σ F0 H0 F H vs as Q gr h p
  unfold gSum at p
  split at p
  · rename_i r
    obtain ⟨v, rfl, hx⟩ := pr1 h
    cases e : r.qv with
    | none => rw [e] at p; exact p.elim
    | some xs =>
      rw [e] at p
      simp only [rsO_some, Rs.bind_ok] at p
      cases e2 : intsD xs with
      | none => rw [e2] at p; exact p.elim
      | some ns =>
        rw [e2] at p
        obtain ⟨q, ws, rfl, hq, dq⟩ := qv_ok gr.cfg.sub hx e
        have := ints_ok dq e2
        subst this
        exact ⟨q, ns, rfl, hq, p F H _ gr (.int _)⟩
  · exact p.elim
/-- the greatest, the least of a list of ints -/
def maxL : List Int → Option Int
  | [] => none
  | x :: xs => some (xs.foldl (fun a b => if b > a then b else a) x)
def minL : List Int → Option Int
  | [] => none
  | x :: xs => some (xs.foldl (fun a b => if b < a then b else a) x)
theorem fold_max (xs : List Int) : ∀ x, (xs.foldl (fun a b => if b > a then b else a) x) ∈ x :: xs ∧ ∀ y ∈ x :: xs, y ≤ xs.foldl (fun a b => if b > a then b else a) x := by
  induction xs with
  | nil => intro x; simp
  | cons z xs ih =>
    intro x
    simp only [List.foldl_cons]
    by_cases c : z > x
    · rw [if_pos c]
      obtain ⟨i1, i2⟩ := ih z
      refine ⟨List.mem_cons_of_mem _ i1, fun y hy => ?_⟩
      rcases List.mem_cons.mp hy with rfl | hy
      · have := i2 z List.mem_cons_self; omega
      · exact i2 y hy
    · rw [if_neg c]
      obtain ⟨i1, i2⟩ := ih x
      refine ⟨?_, fun y hy => ?_⟩
      · rcases List.mem_cons.mp i1 with e | e
        · rw [e]; exact List.mem_cons_self
        · exact List.mem_cons_of_mem _ (List.mem_cons_of_mem _ e)
      · rcases List.mem_cons.mp hy with rfl | hy
        · exact i2 y List.mem_cons_self
        · rcases List.mem_cons.mp hy with rfl | hy
          · have := i2 x List.mem_cons_self; omega
          · exact i2 y (List.mem_cons_of_mem _ hy)
theorem fold_min (xs : List Int) : ∀ x, (xs.foldl (fun a b => if b < a then b else a) x) ∈ x :: xs ∧ ∀ y ∈ x :: xs, xs.foldl (fun a b => if b < a then b else a) x ≤ y := by
  induction xs with
  | nil => intro x; simp
  | cons z xs ih =>
    intro x
    simp only [List.foldl_cons]
    by_cases c : z < x
    · rw [if_pos c]
      obtain ⟨i1, i2⟩ := ih z
      refine ⟨List.mem_cons_of_mem _ i1, fun y hy => ?_⟩
      rcases List.mem_cons.mp hy with rfl | hy
      · have := i2 z List.mem_cons_self; omega
      · exact i2 y hy
    · rw [if_neg c]
      obtain ⟨i1, i2⟩ := ih x
      refine ⟨?_, fun y hy => ?_⟩
      · rcases List.mem_cons.mp i1 with e | e
        · rw [e]; exact List.mem_cons_self
        · exact List.mem_cons_of_mem _ (List.mem_cons_of_mem _ e)
      · rcases List.mem_cons.mp hy with rfl | hy
        · exact i2 y List.mem_cons_self
        · rcases List.mem_cons.mp hy with rfl | hy
          · have := i2 x List.mem_cons_self; omega
          · exact i2 y (List.mem_cons_of_mem _ hy)
def gMax1 : List RV → Rs RV
  | [r] => (rsO r.qv).bind fun xs => (rsO (intsD xs)).bind fun bs => (rsO (maxL bs)).bind okI
  | _ => .no
def gMin1 : List RV → Rs RV
  | [r] => (rsO r.qv).bind fun xs => (rsO (intsD xs)).bind fun bs => (rsO (minL bs)).bind okI
  | _ => .no
theorem c_max1 : CaS K ca (rMax K) gMax1 := by
  intro W σ F0 H0 F H vs as Q gr h p
  unfold gMax1 at p
  split at p
  · rename_i r
    obtain ⟨v, rfl, hx⟩ := pr1 h
    cases e : r.qv with
    | none => rw [e] at p; exact p.elim
    | some xs =>
      rw [e] at p
      simp only [rsO_some, Rs.bind_ok] at p
      cases e2 : intsD xs with
      | none => rw [e2] at p; exact p.elim
      | some ns =>
        rw [e2] at p
        obtain ⟨q, ws, rfl, hq, dq⟩ := qv_ok gr.cfg.sub hx e
        have := ints_ok dq e2
        subst this
        cases ns with
        | nil => exact p.elim
        | cons n ns =>
          refine ⟨q, n :: ns, rfl, hq, by simp, fun m hm hle => ?_⟩
          have f := fold_max ns n
          have e3 : m = ns.foldl (fun a b => if b > a then b else a) n := by have := f.2 m hm; have := hle _ f.1; omega
          rw [e3]
          exact p F H _ gr (.int _)
  · exact p.elim
theorem c_min1 : CaS K ca (rMin K) gMin1 := by
  intro W σ F0 H0 F H vs as Q gr h p
  unfold gMin1 at p
  split at p
  · rename_i r
    obtain ⟨v, rfl, hx⟩ := pr1 h
    cases e : r.qv with
    | none => rw [e] at p; exact p.elim
    | some xs =>
      rw [e] at p
      simp only [rsO_some, Rs.bind_ok] at p
      cases e2 : intsD xs with
      | none => rw [e2] at p; exact p.elim
      | some ns =>
        rw [e2] at p
        obtain ⟨q, ws, rfl, hq, dq⟩ := qv_ok gr.cfg.sub hx e
        have := ints_ok dq e2
        subst this
        cases ns with
        | nil => exact p.elim
        | cons n ns =>
          refine ⟨q, n :: ns, rfl, hq, by simp, fun m hm hle => ?_⟩
          have f := fold_min ns n
          have e3 : m = ns.foldl (fun a b => if b < a then b else a) n := by have := f.2 m hm; have := hle _ f.1; omega
          rw [e3]
          exact p F H _ gr (.int _)
  · exact p.elim
/-- str(n), int(text) -/
def gStr : List RV → Rs RV
  | [.d (.int i)] => if i.natAbs.log2 < 1920 then .ok (.d (.str (toString i : String))) else .no
  | _ => .no
theorem c_str : CaS K ca (fun xs H Q => ∃ i, xs = [.int i] ∧ i.natAbs.log2 < 1920 ∧ Q (.str (toString i : String)) H) gStr := by
  intro W σ F0 H0 F H vs as Q gr h p
  unfold gStr at p
  split at p
  · obtain ⟨v, rfl, hx⟩ := pr1 h
    cases hx
    split at p
    · rename_i c; exact ⟨_, rfl, c, p F H _ gr (.str _)⟩
    · exact p.elim
  · exact p.elim
def gInt : List RV → Rs RV
  | [.d (.str a)] => (rsO (PySem.intText? a)).bind fun n => if a.length ≤ 640 then okI n else .no
  | _ => .no
theorem c_int : CaS K ca (fun xs H Q => ∃ a n, xs = [.str a] ∧ PySem.intText? a = some n ∧ a.length ≤ 640 ∧ Q (.int n) H) gInt := by
  intro W σ F0 H0 F H vs as Q gr h p
  unfold gInt at p
  split at p
  · rename_i a
    obtain ⟨v, rfl, hx⟩ := pr1 h
    cases hx
    cases e : PySem.intText? a with
    | none => rw [e] at p; exact p.elim
    | some n =>
      rw [e] at p
      simp only [rsO_some, Rs.bind_ok] at p
      split at p
      · rename_i c; exact ⟨_, _, rfl, e, c, p F H _ gr (.int _)⟩
      · exact p.elim
  · exact p.elim
end
section
variable {ca : CA} {W : WX} {X : Cx} {a b e : Expr} {es : List Expr} {fa fb : VEnv → Rs RV} {pos : Pos}
/-! ### slices -/
structure VO (ca : CA) (W : WX) (X : Cx) (e : Option Expr) (f : VEnv → Rs (Option Int)) : Prop where
  ex : ∃ t, PO X e t ∧ ∀ B F env σ H Q, StOk X.K ca B F env σ H → (∀ o, f env = .ok o → ∀ F' H', Grow F H F' H' → Q o H') → (∀ c fs, f env = .ex c fs → PostX X.K ca W σ F H c fs) → f env ≠ .no → t σ H Q
def oN : VEnv → Rs (Option Int) := fun _ => .ok none
def oS (f : VEnv → Rs RV) : VEnv → Rs (Option Int) := fun env => (f env).bind fun r => match r with
  | .d (.int i) => .ok (some i)
  | _ => .no
theorem vo_none : VO ca W X none oN := ⟨_, po_none, fun B F env σ H Q st p _ _ => p none rfl F H (Grow.refl st.cfg)⟩
theorem vo_some (h : VE ca W X e fa) : VO ca W X (some e) (oS fa) := by
  obtain ⟨t, pe, se⟩ := h
  refine ⟨_, po_some pe, fun B F env σ H Q st p px pn => ?_⟩
  show t σ H fun x H1 => ∃ i, x = .int i ∧ Q (some i) H1
  refine se B F env σ H _ st ?_
  unfold oS at p px pn
  cases e1 : fa env with
  | no => rw [e1] at pn; exact (pn rfl).elim
  | ex c fs => exact px c fs (by rw [e1]; rfl)
  | ok r =>
    rw [e1] at p pn
    intro F' H' v g q
    simp only [Rs.bind_ok] at p pn
    split at pn
    · rename_i i; cases q; exact ⟨i, rfl, p _ rfl F' H' g⟩
    · exact (pn rfl).elim
def cSl (f : VEnv → Rs RV) (l h : VEnv → Rs (Option Int)) : VEnv → Rs RV := fun env => (f env).bind fun r => (l env).bind fun lo => (h env).bind fun hi => gSl r lo hi
theorem ve_sl {lo hi : Option Expr} {p2 : Pos} {l h : VEnv → Rs (Option Int)} (he : VE ca W X e fa) (hl : VO ca W X lo l) (hh : VO ca W X hi h) : VE ca W X (.Subscript e (.Slice lo hi none p2) pos) (cSl fa l h) := by
  obtain ⟨t, pe, se⟩ := he
  obtain ⟨tl, pl, sl⟩ := hl
  obtain ⟨th, ph, sh⟩ := hh
  refine ⟨_, pe_slice sl_all pe pl ph, fun B F env σ H Q st p => ?_⟩
  show t σ H fun x H1 => tl σ H1 fun l H2 => th σ H2 fun u H3 => rSlAll X.K x l u H3 Q
  refine seqE (PostE X.K ca W σ F H Q) se st p (fun _ _ h => h) (fun h => h) fun r F1 H1 v p1 g1 q1 => ?_
  refine sl B F1 env σ H1 _ (st.grow g1) (fun o eo F2 H2 g2 => ?_) (fun c fs ex => ?_) (fun en => ?_)
  · rw [eo] at p1
    simp only [Rs.bind_ok] at p1
    refine sh B F2 env σ H2 _ ((st.grow g1).grow g2) (fun u eu F3 H3 g3 => ?_) (fun c fs ex => ?_) (fun en => ?_)
    · rw [eu] at p1
      exact s_sl ((g1.trans g2).trans g3) ((q1.grow g2).grow g3) p1
    · rw [ex] at p1; exact PostX.mono (g1.trans g2) p1
    · rw [en] at p1; exact p1
  · rw [ex] at p1; exact PostX.mono g1 p1
  · rw [en] at p1; exact p1
def gRev (r : RV) : Rs RV := (rsO r.qv).bind fun xs => .ok (.ol xs.reverse)
theorem ve_rev {k : Nat} {p1 p2 p3 : Pos} (he : VE ca W X e fa) : VE ca W X (.Subscript e (.Slice none none (some (.UnaryOp .USub (.Constant (.int 1) k p1) p2)) p3) pos) (c1 gRev fa) := by
  obtain ⟨t, pe, se⟩ := he
  refine ⟨_, pe_revL pe, fun B F env σ H Q st p => ?_⟩
  show t σ H fun x H1 => ∃ a xs, x = .ref a ∧ SqL X.K H1 a xs ∧ ∀ p, H1 p = none → Q (.ref p) (upd H1 p (.lst xs.reverse))
  refine seqE (PostE X.K ca W σ F H Q) se st p (fun _ _ h => h) (fun h => h) fun r F1 H1 v p1 g1 q1 => ?_
  unfold gRev at p1
  cases e1 : r.qv with
  | none => rw [e1] at p1; exact p1.elim
  | some xs =>
    rw [e1] at p1
    obtain ⟨q, ws, rfl, hq, dq⟩ := qv_ok g1.cfg.sub q1 e1
    refine ⟨q, ws, rfl, hq, fun l hl => ?_⟩
    have g2 := Grow.newO g1.cfg (.lst ws.reverse) hl (fun _ z => by cases z)
    exact p1 _ _ _ (g1.trans g2) ⟨l, _, rfl, none_n g1.hh hl, same_none g1.cfg.sub hl, upd_same, dq.rev⟩
/-! ### isinstance(e, T), T a built-in class -/
def tyD : PyData → Option String
  | .none => some "NoneType"
  | .bool _ => some "bool"
  | .int _ => some "int"
  | .str _ => some "str"
  | .list _ => some "list"
  | .tuple _ => some "tuple"
  | .dict _ => none
def gIsi (T : String) (r : RV) : Rs RV := (rsO (r.data.bind tyD)).bind fun t => (rsO (kitB t T)).bind okB
theorem ty_ok {K : PySem.W.Frag} {H0 F H : Hp} {v : V} {r : RV} {t : String} (s : Same F H) (h : RVok K H0 F H v r) (e : r.data.bind tyD = some t) : TyX K H v (.type t) := by
  have lst : ∀ p vs, SqL K H p vs → TyX K H (.ref p) (.type "list") := fun p vs h => by
    rcases h with (h | ⟨o, h⟩) | ⟨o, its, n, hk, hc, _⟩
    · exact .base (.lst h)
    · exact .base (.frz h)
    · exact .kList hk hc
  have tup : ∀ p vs, SqT K H p vs → TyX K H (.ref p) (.type "tuple") := fun p vs h => by
    rcases h with (h | ⟨o, h⟩) | ⟨o, its, n, hk, hc, _⟩
    · exact .base (.tup h)
    · exact .fTuple h
    · exact .kTuple hk hc
  cases r with
  | d x =>
    cases x with
    | none => cases e; cases h; exact .base .non
    | bool b => cases e; cases h; exact .base (.bl _)
    | int b => cases e; cases h; exact .base (.int _)
    | str b => cases e; cases h; exact .base (.str _)
    | list xs => cases e; cases h with
      | lst h1 h2 => exact lst _ _ (SqL.of (s _ _ h1))
    | tuple xs => cases e; cases h with
      | tup h1 h2 => exact tup _ _ (same_seqT s h1.1)
    | dict kvs => cases e
  | ol xs => cases e; obtain ⟨p, vs, rfl, _, _, hp, _⟩ := h; exact lst _ _ (SqL.of hp)
  | bl xs => cases e; obtain ⟨p, vs, rfl, hp, _⟩ := h; exact lst _ _ (SqL.of hp)
  | sc ns => cases e; obtain ⟨p, rfl, hp⟩ := h; exact lst _ _ (s.seq hp)
  | _ => cases e
theorem ve_isi {T : Str} {T' : String} {p p2 : Pos} (hg : Gl X "isinstance") (hm : X.mg "isinstance" = none) (hg2 : Gl X T) (hm2 : X.mg T = none) (hv : bootBuiltins T = some (.type T')) (he : VE ca W X e fa) (hn2 : T ≠ "__name__" := by decide) (hd2 : (T == ("__debug__" : Str)) = false := by decide)
    (hs : starEach [e, .Name T p2] X.env = (false, eval e X.env) :: starEach [.Name T p2] X.env := by rfl) (hs2 : starEach [.Name T p2] X.env = (false, eval (.Name T p2) X.env) :: starEach [] X.env := by rfl) (hpl : (backTo pos (starEach [.Name T p2] X.env)).any (·.1) = false := by rfl) :
    VE ca W X (.Call (.Name "isinstance" p) [e, .Name T p2] [] pos) (c1 (gIsi T') fa) := by
  obtain ⟨t, pe, se⟩ := he
  refine ⟨_, pe_callB call_isi hg hm (by decide +kernel) (pa_cons pe (pa_cons (pe_bltn (v := .ty T') hg2 hm2 hv rfl hn2 hd2) pa_nil hs2) hs) (by decide) (by decide) hs hpl, fun B F env σ H Q st q => ?_⟩
  show t σ H fun x H1 => rIsi X.K [x, .ty T'] H1 Q
  refine seqE (PostE X.K ca W σ F H Q) se st q (fun _ _ h => h) (fun h => h) fun r F1 H1 v p1 g1 q1 => ?_
  unfold gIsi at p1
  cases e1 : r.data.bind tyD with
  | none => rw [e1] at p1; exact p1.elim
  | some ty =>
    rw [e1] at p1
    simp only [rsO_some, Rs.bind_ok] at p1
    cases e2 : kitB ty T' with
    | none => rw [e2] at p1; exact p1.elim
    | some k => rw [e2] at p1; exact ⟨v, .ty T', .type ty, .type T', k, rfl, .ty T', ty_ok g1.cfg.sub q1 e1, kit_ty e2, p1 F1 H1 _ g1 (.bl _)⟩
/-! ### range with a step of -1 -/
def gR3 : List RV → Rs (List PyData)
  | [.d (.int i), .d (.int j), .d (.int c)] => if c = -1 ∧ i.natAbs ≤ 1000000 ∧ j.natAbs ≤ 1000000 then .ok ((List.range (i - j).toNat).map fun k : Nat => .int (i - (k : Int))) else .no
  | _ => .no
theorem jw_rngc {G : Hp} (lo : Int) (n : Nat) : JWalk (Itc lo (-1) n) G ((List.range n).map fun i : Nat => V.int (lo - (i : Int))) where
  go := fun i H s hi => by
    have hi' : i < n := by simpa using hi
    exact hi'
  yld := fun i H x H' s y hi => by
    have hi' : i < n := by simpa using hi
    refine ⟨y.1, ?_⟩
    rw [y.2, List.getElem?_map, List.getElem?_range hi']
    show some (V.int (lo - (i : Int))) = some (V.int (lo + (i : Int) * -1))
    congr 2
    omega
  stop := fun H s => by show n ≤ _; simp
theorem vi_range3 {c tg : Expr} {p pos : Pos} {f : VEnv → Rs (List RV)} (hg : Gl X "range") (hm : X.mg "range" = none) (ha : VA ca W X [a, b, c] f)
    (hs : starEach [a, b, c] X.env = (false, eval a X.env) :: starEach [b, c] X.env := by rfl) (hpl : (backTo pos (starEach [b, c] X.env)).any (·.1) = false := by rfl) : VI ca W X tg (.Call (.Name "range" p) [a, b, c] [] pos) (iR gR3 f) := by
  obtain ⟨t, pa, sa⟩ := ha
  refine ⟨_, pi_range3 hg hm pa hs hpl, fun B F env σ H R st q => ?_⟩
  show t σ H fun vs H1 => ∃ (i j c : Int) (n : Nat), vs = [.int i, .int j, .int c] ∧ RgC i j c n ∧ R (Itc i c n) H1
  refine seqA (PostI X.K ca W σ F H R) sa st q (fun _ _ h => h) (fun h => h) fun rs F1 H1 vs p1 g1 q1 => ?_
  unfold gR3 at p1
  split at p1
  · rename_i i j c
    split at p1
    · rename_i hj
      cases q1 with
      | cons h1 h2 =>
        cases h2 with
        | cons h3 h4 =>
          cases h4 with
          | cons h5 h6 =>
            cases h6
            cases h1; cases h3; cases h5
            obtain ⟨rfl, k1, k2⟩ := hj
            refine ⟨i, j, -1, _, rfl, RgC.neg (by omega) (by omega) (by omega) (by omega), p1 _ F1 H1 _ g1 ?_ (jw_rngc i _)⟩
            have := DqA.of_ints (K := X.K) (F := F1) ((List.range (i - j).toNat).map fun k : Nat => i - (k : Int))
            rw [List.map_map, List.map_map] at this
            exact this
    · exact p1.elim
  · exact p1.elim
end
end VL

namespace VL
open PySem PySem.Spec PyProof.Rows L2

def RV.isOb : RV → Bool
  | .ob _ _ _ => true
  | _ => false
/-! ## writes to a list of one's own -/
section
variable {K : PySem.W.Frag} {ca : CA} {W : WX} {B : Base} {F H : Hp} {env : VEnv} {σ : L2.St}
theorem own_xd {K : PySem.W.Frag} {H0 F H : Hp} {p : Addr} {r : RV} {xs : List (Str × V)} (o : r.own = true) (h : RVok K H0 F H (.ref p) r) (hx : H p = some (.xd xs)) : False := by
  cases r with
  | ol ys => obtain ⟨a, ws, z, _, _, h2, _⟩ := h; cases z; rw [hx] at h2; cases h2
  | od ys => obtain ⟨a, ws, z, _, _, h2, _⟩ := h; cases z; rw [hx] at h2; cases h2
  | ot ys =>
    obtain ⟨a, ws, z, _, _, h2, _⟩ := h; cases z; rw [hx] at h2
    have h3 := Option.some.inj h2
    have h4 : HO.xd xs = HO.ext _ := h3
    cases h4
  | ob me x fs => obtain ⟨a, z, C, dx, vs, _, h2, _⟩ := h; cases z; rw [hx] at h2; cases h2
  | _ => cases o
theorem StOk.ownAt (st : StOk K ca B F env σ H) {i : Nat} {xs : List PyData} (e : env[i]? = some (some (.ol xs))) : ∃ p vs, σ[i]? = some (some (.ref p)) ∧ B.H p = none ∧ F p = none ∧ H p = some (.lst vs) ∧ DqA K F vs xs := by
  obtain ⟨v, e1, p, vs, rfl, q⟩ := st.sl i _ e
  exact ⟨p, vs, e1, q⟩
/-- what stands aside of a change at p stands still -/
theorem ObOk.aside {K : PySem.W.Frag} {H0 F H : Hp} {p a : Addr} {x : Str} {fs : List (Str × FV)} {o' : HO} (h : ObOk K H0 F H a x fs) (ne : a ≠ p) (nq : p ∉ fla H a fs) : ObOk K H0 F (upd H p o') a x fs := by
  have h' := h
  obtain ⟨C, dx, vs, _, _, n0, f0, _⟩ := h'
  exact h.to (Same.refl _) n0 f0 (upd_ne ne) fun q hq ws n f e => ⟨n, f, by rw [upd_ne (show q ≠ p from fun z => nq (by rw [← z]; exact hq))]; exact e⟩
theorem BoOk.aside {K : PySem.W.Frag} {F H : Hp} {p a : Addr} {x : Str} {fs : List (Str × FV)} {o' : HO} (h : BoOk K F H a x fs) (ne : a ≠ p) (nq : p ∉ fla H a fs) : BoOk K F (upd H p o') a x fs :=
  h.to (Same.refl _) (upd_ne ne) fun q hq ws e => by rw [upd_ne (show q ≠ p from fun z => nq (by rw [← z]; exact hq))]; exact e
theorem TabOk.aside {T : List Addr} {F H : Hp} {p : Addr} {o o' : HO} (h : TabOk T F H) (hp : H p = some o) (no : ∀ ps, o ≠ .tbl ps) : TabOk T F (upd H p o') :=
  h.to fun P ps f e => ⟨f, upd_ne fun z => by rw [z, hp] at e; exact no ps (Option.some.inj e)⟩
theorem own_tbl {K : PySem.W.Frag} {H0 F H : Hp} {p : Addr} {r : RV} {ps : Array Value} (o : r.own = true) (h : RVok K H0 F H (.ref p) r) (hx : H p = some (.tbl ps)) : False := by
  cases r with
  | ol ys => obtain ⟨a, ws, z, _, _, h2, _⟩ := h; cases z; rw [hx] at h2; cases h2
  | od ys => obtain ⟨a, ws, z, _, _, h2, _⟩ := h; cases z; rw [hx] at h2; cases h2
  | ot ys =>
    obtain ⟨a, ws, z, _, _, h2, _⟩ := h; cases z; rw [hx] at h2
    have h3 := Option.some.inj h2
    have h4 : HO.tbl ps = HO.ext _ := h3
    cases h4
  | ob me x fs => obtain ⟨a, z, C, dx, vs, _, h2, _⟩ := h; cases z; rw [hx] at h2; cases h2
  | _ => cases o
theorem StOk.write (st : StOk K ca B F env σ H) {i : Nat} {r0 r1 : RV} {p : Addr} {o o' : HO} (e : env[i]? = some (some r0)) (ow : r0.own = true) (es : σ[i]? = some (some (.ref p))) (hp : H p = some o) (n0 : B.H p = none) (f0 : F p = none) (nt : ∀ xs, o' ≠ .tup xs)
    (ok : RVok K B.H F (upd H p o') (.ref p) r1) (ob : r1.isB = false) (nob0 : r0.isOb = false := by rfl) (nob1 : r1.isOb = false := by rfl) : StOk K ca B F (env.set i (some r1)) σ (upd H p o') := by
  have hi : i < env.length := (List.getElem?_eq_some_iff.mp e).1
  have back : ∀ {j : Nat} {r : RV}, (env.set i (some r1))[j]? = some (some r) → (r.isOb = true ∨ r.isB = true) → j ≠ i ∧ env[j]? = some (some r) := fun {j r} ej o => by
    by_cases h : i = j
    · subst h
      rw [List.getElem?_set_self hi] at ej
      cases ej
      rcases o with o | o
      · rw [nob1] at o; cases o
      · rw [ob] at o; cases o
    · rw [List.getElem?_set_ne h] at ej; exact ⟨Ne.symm h, ej⟩
  have owns : ∀ {j : Nat} {r : RV}, (env.set i (some r1))[j]? = some (some r) → r.own = true → ∃ r', env[j]? = some (some r') ∧ r'.own = true := fun {j r} ej o => by
    by_cases h : i = j
    · subst h; exact ⟨r0, e, ow⟩
    · rw [List.getElem?_set_ne h] at ej; exact ⟨r, ej, o⟩
  obtain ⟨v0, ev0, q0⟩ := st.sl i r0 e
  have ev0' : v0 = .ref p := by rw [es] at ev0; cases ev0; rfl
  subst ev0'
  -- an instance's lists are elsewhere
  have obq : ∀ {j : Nat} {a : Addr} {me : Bool} {x : Str} {fs : List (Str × FV)}, env[j]? = some (some (.ob me x fs)) → σ[j]? = some (some (.ref a)) → p ∉ fla H a fs := fun {j a me x fs} ej sj hq => st.rg.o1 j i a p me x fs r0 ej sj hq e ow es
  have obp : ∀ {j : Nat} {a : Addr} {me : Bool} {x : Str} {fs : List (Str × FV)}, env[j]? = some (some (.ob me x fs)) → σ[j]? = some (some (.ref a)) → a ≠ p := fun {j a me x fs} ej sj z => by
    by_cases h : j = i
    · subst h; rw [e] at ej; cases ej; cases nob0
    · exact st.dis j i _ r0 a h ej e rfl ow sj (z ▸ es)
  have boq : ∀ {j : Nat} {a : Addr} {x : Str} {fs : List (Str × FV)}, env[j]? = some (some (.bo x fs)) → σ[j]? = some (some (.ref a)) → p ∉ fla H a fs := fun {j a x fs} ej sj hq => by
    obtain ⟨o, ho⟩ := st.rg.o3 j a p x fs ej sj hq
    rw [n0] at ho; cases ho
  have bop : ∀ {j : Nat} {a : Addr} {x : Str} {fs : List (Str × FV)}, env[j]? = some (some (.bo x fs)) → σ[j]? = some (some (.ref a)) → a ≠ p := fun {j a x fs} ej sj z => by
    obtain ⟨o, ho⟩ := st.bo j _ a ej rfl sj
    rw [z, n0] at ho; cases ho
  have fe : ∀ {a : Addr} {fs : List (Str × FV)}, a ≠ p → fla (upd H p o') a fs = fla H a fs := fun h => by unfold fla; rw [upd_ne h]
  refine ⟨st.gr.write n0 f0 hp nt, by simpa using st.len, fun j r ej => ?_, fun j r a ej o z => ?_, fun j k r r' a jk e1 e2 o1 o2 z1 z2 => ?_,
    ⟨st.rg.tb.aside hp (fun ps z => own_tbl ow q0 (z ▸ hp)), fun a b p1 q me x fs r ea za hq eb ob' => ?_, fun a b p1 p2 q me me' x x' fs fs' ab ea za eb zb hq hq' => ?_, fun a p1 q x fs ea za hq => ?_, fun a x fs ea => st.rg.me a x fs (back ea (.inl rfl)).2⟩⟩
  rotate_right 3
  · have ea' := (back ea (.inl rfl)).2
    rw [fe (obp ea' za)] at hq
    obtain ⟨r', eb', ob2⟩ := owns eb ob'
    exact st.rg.o1 a b p1 q me x fs r' ea' za hq eb' ob2
  · have ea' := (back ea (.inl rfl)).2
    have eb' := (back eb (.inl rfl)).2
    rw [fe (obp ea' za)] at hq
    rw [fe (obp eb' zb)] at hq'
    exact st.rg.o2 a b p1 p2 q me me' x x' fs fs' ab ea' za eb' zb hq hq'
  · have ea' := (back ea (.inr rfl)).2
    rw [fe (bop ea' za)] at hq
    exact st.rg.o3 a p1 q x fs ea' za hq
  · by_cases h : i = j
    · subst h
      rw [List.getElem?_set_self hi] at ej
      cases ej
      exact ⟨_, es, ok⟩
    · rw [List.getElem?_set_ne h] at ej
      obtain ⟨w, ew, q⟩ := st.sl j r ej
      refine ⟨w, ew, ?_⟩
      have ne : ∀ a, r.own = true → w = .ref a → a ≠ p := fun a o z y => by
        subst y; subst z
        exact st.dis i j r0 r a h e ej ow o es ew
      have nb : ∀ a, r.isB = true → w = .ref a → a ≠ p := fun a o z y => by
        subst y; subst z
        obtain ⟨ob, hb⟩ := st.bo j r a ej o ew
        rw [n0] at hb; cases hb
      cases r with
      | d x => exact q
      | ol ys => obtain ⟨a, ws, z, n, f2, h2, q4⟩ := q; exact ⟨a, ws, z, n, f2, by rw [upd_ne (ne a rfl z)]; exact h2, q4⟩
      | od ys => obtain ⟨a, ws, z, n, f2, h2, q4⟩ := q; exact ⟨a, ws, z, n, f2, by rw [upd_ne (ne a rfl z)]; exact h2, q4⟩
      | ot ys => obtain ⟨a, ws, z, n, f2, h2, q4⟩ := q; exact ⟨a, ws, z, n, f2, by rw [upd_ne (ne a rfl z)]; exact h2, q4⟩
      | sc ns => exact q
      | t3 x ys kvs => exact t3_mono (Same.refl _) q
      | fd kvs => exact fd_mono (Same.refl _) q
      | ob me x fs => obtain ⟨a, z, h4⟩ := q; subst z; exact ⟨a, rfl, h4.aside (obp ej ew) (obq ej ew)⟩
      | bo x fs => obtain ⟨a, z, h4⟩ := q; subst z; exact ⟨a, rfl, h4.aside (bop ej ew) (boq ej ew)⟩
      | bl ys => obtain ⟨a, ws, z, h2, q4⟩ := q; exact ⟨a, ws, z, by rw [upd_ne (nb a rfl z)]; exact h2, q4⟩
      | bd ys => obtain ⟨a, ws, z, h2, q4⟩ := q; exact ⟨a, ws, z, h2.imp (fun w => by rw [upd_ne (nb a rfl z)]; exact w) (fun ⟨o, w⟩ => ⟨o, by rw [upd_ne (nb a rfl z)]; exact w⟩), q4⟩
      | bt ys => obtain ⟨a, ws, z, h2, q4⟩ := q; exact ⟨a, ws, z, by rw [upd_ne (nb a rfl z)]; exact h2, q4⟩
      | xo a dd c fs =>
        obtain ⟨z, ws, h2, q4⟩ := q
        have hne : dd ≠ p := fun y => by
          subst y
          obtain ⟨v0, ev0, q0⟩ := st.sl i r0 e
          rw [es] at ev0
          cases ev0
          exact own_xd ow q0 h2
        exact ⟨z, ws, by rw [upd_ne hne]; exact h2, q4⟩
  · by_cases h : i = j
    · subst h
      rw [List.getElem?_set_self hi] at ej
      cases ej
      rw [ob] at o; cases o
    · rw [List.getElem?_set_ne h] at ej
      exact st.bo j r a ej o z
  · have own : ∀ (j : Nat) (r : RV), (env.set i (some r1))[j]? = some (some r) → r.own = true → ∃ r', env[j]? = some (some r') ∧ r'.own = true := fun j r ej o => by
      by_cases h : i = j
      · subst h; exact ⟨r0, e, ow⟩
      · rw [List.getElem?_set_ne h] at ej; exact ⟨r, ej, o⟩
    obtain ⟨s1, f1, g1⟩ := own j r e1 o1
    obtain ⟨s2, f2, g2⟩ := own k r' e2 o2
    exact st.dis j k s1 s2 a jk f1 f2 g1 g2 z1 z2
end
section
variable {ca : CA} {W : WX} {X : Cx} {a b e : Expr} {es : List Expr} {fa fb : VEnv → Rs RV} {pos : Pos}
/-- xs.append(e), xs a list of the def's own -/
def sApp (i : Nat) (fe : VEnv → Rs RV) : VEnv → Out := fun env => match env[i]? with
  | some (some (.ol xs)) => (fe env).out env fun r => match r.toD with
    | some d => if xs.length ≤ 1000000 then .nx (env.set i (some (.ol (xs ++ [d])))) else .no
    | none => .no
  | _ => .no
theorem vs_app (i : Nat) {x : Str} {p1 p2 p3 : Pos} (he : VE ca W X e fa) (hN : X.N[i]? = some x := by rfl) (hv : Vis X.env.scope x := by first | exact Or.inl rfl | exact Or.inr (Or.inl rfl) | exact Or.inr (Or.inr rfl)) (hd : (x == ("__debug__" : Str)) = false := by decide) (hcd : (x == ("__classdict__" : Str)) = false := by decide)
    (hbase : attributeBase (.Name x p1) "append" X.env (eval (.Name x p1) X.env) = eval (.Name x p1) X.env := by rfl)
    (hfew : ((backTo p3 (starEach (e :: []) X.env)).all (fun x => !x.1) && (backToKw p3 (keywordEach [] X.env)).all (fun x => x.1.isSome)
      && decide ((e :: []).length + ([] : List Keyword).length + (if ([] : List Keyword).isEmpty then 0 else 1) < 30)) = true := by rfl)
    (hline : (p2.endLine == p3.line) = true := by rfl) (hs : starEach (e :: []) X.env = (false, eval e X.env) :: starEach [] X.env := by rfl) (hplain : (backTo p3 (starEach [] X.env)).any (·.1) = false := by rfl)
    (hsw : swapsWith (.Call (.Attribute (.Name x p1) "append" p2) [e] [] p3) none pos.line X.env = pure false := by rfl) :
    VS ca W X (.Expr (.Call (.Attribute (.Name x p1) "append" p2) [e] [] p3) pos) (sApp i fa) := by
  obtain ⟨t, pe, se⟩ := he
  refine ⟨_, ps_expr (pe_bm PySem.F.plainAttrs_list PySem.F.slot_list_append PySem.F.type_list_append mt_append (pe_var hN hv hd hcd) (pa_cons pe pa_nil hs) hbase hfew hline hs hplain) hsw, fun B F env σ H D st p => ?_⟩
  show ∃ v, σ[i]? = some (some v) ∧ (tyV X.K "list" v H ∧ t σ H fun y H1 => rAppend v [y] H1 fun _ H2 => D.nx σ H2)
  unfold sApp at p
  split at p
  · rename_i xs e1
    obtain ⟨a, vs, s1, n0, f0, hp, q⟩ := st.ownAt e1
    refine ⟨.ref a, s1, .inl ⟨rfl, vs, SqL.of hp⟩, ?_⟩
    refine outE se st p fun r F1 H1 v p1 g q1 => ?_
    cases e2 : r.toD with
    | none => rw [e2] at p1; exact p1.elim
    | some d =>
      rw [e2] at p1
      simp only at p1
      split at p1
      · rename_i hz
        obtain ⟨F2, g2, s2, q2⟩ := frz g (Fz.of q1 e2)
        have st2 := st.grow g2
        have hp2 := g2.hh _ _ hp
        have f2 := g2.stillFree f0 hp
        have q3 : DqA X.K F2 (vs ++ [v]) (xs ++ [d]) := (DqA.mono g2.ff _ _ q).append (.cons q2 .nil)
        refine ⟨a, vs, v, rfl, rfl, hp2, by rw [q.length]; exact million hz, ?_⟩
        exact p1 F2 σ _ s2 (st2.write (r1 := .ol (xs ++ [d])) e1 rfl s1 hp2 n0 f2 (fun _ z => by cases z) ⟨a, _, rfl, n0, f2, upd_same, q3⟩ rfl)
      · exact p1.elim
  · exact p.elim
/-- xs.pop() as a statement -/
def sPop (i : Nat) : VEnv → Out := fun env => match env[i]? with
  | some (some (.ol xs)) => if xs = [] then .no else .nx (env.set i (some (.ol xs.dropLast)))
  | _ => .no
/-- xs[i] = e -/
def sStore (i : Nat) (fi fe : VEnv → Rs RV) : VEnv → Out := fun env => match env[i]? with
  | some (some (.ol xs)) => (fe env).out env fun r => (fi env).out env fun ix => match r.toD, ix with
    | some d, .d (.int k) => (match ixN xs.length k with
      | some j => .nx (env.set i (some (.ol (xs.set j d))))
      | none => .no)
    | _, _ => .no
  | _ => .no
theorem vs_store (i : Nat) {x : Str} {ie : Expr} {p1 p2 : Pos} {fi : VEnv → Rs RV} (he : VE ca W X e fa) (hi : VE ca W X ie fi) (hN : X.N[i]? = some x := by rfl) (hv : Vis X.env.scope x := by first | exact Or.inl rfl | exact Or.inr (Or.inl rfl) | exact Or.inr (Or.inr rfl)) (hd : (x == ("__debug__" : Str)) = false := by decide) (hcd : (x == ("__classdict__" : Str)) = false := by decide)
    (ha : ∀ v, assign (.Subscript (.Name x p1) ie p2) X.env v = (do
      let ov ← holding [v] (eval (.Name x p1) X.env)
      let iv ← holding [v, ov] (eval ie X.env)
      standAt p2
      holding [v, ov, iv] (setItem ov iv v)
      release [v, ov, iv] []) := by intro _; rfl)
    (hs : swapsWithSole [.Subscript (.Name x p1) ie p2] e pos.line X.env = pure false := by rfl) (hw : swappedStores [.Subscript (.Name x p1) ie p2] e X.env = pure none := by rfl)
    (h1 : (assignEach [.Subscript (.Name x p1) ie p2] X.env).map (·.2) = [assign (.Subscript (.Name x p1) ie p2) X.env] := by rfl) :
    VS ca W X (.Assign [.Subscript (.Name x p1) ie p2] e pos) (sStore i fi fa) := by
  obtain ⟨t, pe, se⟩ := he
  obtain ⟨ti, pi, si⟩ := hi
  refine ⟨_, ps_asg pe (pg_sub (pe_var hN hv hd hcd) pi set_list ha) hs hw h1, fun B F env σ H D st p => ?_⟩
  show t σ H fun v H1 => ∃ o, σ[i]? = some (some o) ∧ ti σ H1 fun iv H3 => rSetL o iv v H3 fun H4 => D.nx σ H4
  unfold sStore at p
  split at p
  · rename_i xs e1
    obtain ⟨a, vs, s1, n0, f0, hp, q⟩ := st.ownAt e1
    refine outE se st p fun r F1 H1 v p1 g q1 => ⟨_, s1, ?_⟩
    refine outE si (st.grow g) p1 fun ix F2 H2 w p2 g2 q2 => ?_
    cases e2 : r.toD with
    | none => rw [e2] at p2; exact p2.elim
    | some d =>
      rw [e2] at p2
      cases ix with
      | d y =>
        cases y with
        | int k =>
          simp only at p2
          cases e3 : ixN xs.length k with
          | none => rw [e3] at p2; exact p2.elim
          | some j =>
            rw [e3] at p2
            cases q2
            obtain ⟨F3, g3, s3, q3⟩ := frz (g.trans g2) (Fz.of (q1.grow g2) e2)
            have hp3 := g3.hh _ _ hp
            have f3 := g3.stillFree f0 hp
            refine ⟨a, vs, k, j, rfl, rfl, hp3, by rw [q.length]; exact e3, ?_⟩
            exact p2 F3 σ _ s3 ((st.grow g3).write (r1 := .ol (xs.set j d)) e1 rfl s1 hp3 n0 f3 (fun _ z => by cases z) ⟨a, _, rfl, n0, f3, upd_same, DqA.set q3 j (DqA.mono g3.ff _ _ q)⟩ rfl)
        | _ => exact p2.elim
      | _ => exact p2.elim
  · exact p.elim
/-- x += e, ints -/
def sAug (i : Nat) (g : RV → RV → Rs RV) (fe : VEnv → Rs RV) : VEnv → Out := fun env => match env[i]? with
  | some (some r0) => (fe env).out env fun r => (g r0.bor r).out env fun z => putS i z env
  | _ => .no
theorem vs_augI {i : Nat} {x : Str} {pos' : Pos} (hN : X.N.Nodup) (hi : X.N[i]? = some x) (hx : Loc X.env.scope x) (he : VE ca W X e fa) (hf : X.fn x = true ∨ X.env.scope.names.lookup x = some .local := by first | exact .inl rfl | exact .inr rfl | assumption) :
    VS ca W X (.AugAssign (.Name x pos') .Add e pos) (sAug i (RV.i2 fun i j => okI (i + j)) fa) := by
  obtain ⟨t, pe, se⟩ := he
  refine ⟨_, ps_aug hN hi hx pe ip_add hf, fun B F env σ H D st p => ?_⟩
  show ∃ x, σ[i]? = some (some x) ∧ t σ H fun y H1 => ∃ k l, x = .int k ∧ y = .int l ∧ D.nx (σ.set i (some (.int (k + l)))) H1
  unfold sAug at p
  split at p
  · rename_i r0 e1
    obtain ⟨v, e2, q0⟩ := st.sl i r0 e1
    refine ⟨v, e2, ?_⟩
    refine outE se st p fun r F1 H1 w p1 g q1 => ?_
    cases r0 with
    | d x0 => cases x0 with
      | int k => cases r with
        | d y => cases y with
          | int l =>
            cases q0; cases q1
            exact ⟨k, l, rfl, rfl, snd_put (r := .d (.int (k + l))) st g (.int _) p1⟩
          | _ => exact p1.elim
        | _ => exact p1.elim
      | _ => cases r <;> exact p1.elim
    | _ => exact p1.elim
  · exact p.elim
end

/-! ## the law's end -/
def spTrue (K : PySem.W.Frag) : Sp := fun vs H Q _ => ∃ (a : Addr) (ns : List Int), vs = [.ref a] ∧ SqL K H a (ns.map V.int) ∧ ns.length ≤ 63 ∧ ∀ H', Q (.bl true) H'
/-- what is no table -/
def noTb (H : Hp) : Hp := fun b => match H b with
  | some (.tbl _) => none
  | o => o
theorem noTb_sub (H : Hp) : Same (noTb H) H := fun b o h => by
  unfold noTb at h
  split at h
  · cases h
  · exact h
theorem noTb_get {H : Hp} {a : Addr} {o : HO} [i : NT o] (h : H a = some o) : noTb H a = some o := by
  unfold noTb
  rw [h]
  cases o with
  | tbl ps => exact absurd rfl (i.nt ps)
  | _ => rfl
theorem law_trueT {K : PySem.W.Frag} {ca : CA} {G : List RV → Rs RV} (h : ∀ ns : List Int, ns.length ≤ 63 → G [.sc ns] = .ok (.d (.bool true))) (vs : List V) (H : Hp) (Q : VK) (E : XK) (tb : ∀ P ∈ ca.T, ∃ ps : Array Value, H P = some (.tbl ps) ∧ TriplesOk ps.toList) (s : spTrue K vs H Q E) : spV K ca 1 G vs H Q E := by
  obtain ⟨a, ns, rfl, hS, hl, q⟩ := s
  have sq : SqL K (noTb H) a (ns.map V.int) := by
    rcases hS with (h | ⟨o, h⟩) | h
    · exact .inl (.inl (noTb_get h))
    · exact .inl (.inr ⟨o, noTb_get h⟩)
    · exact .inr h
  refine ⟨rfl, noTb H, [.sc ns], ⟨noTb_sub H, fun _ _ e => noTb_get e, fun a ps e => by
    unfold noTb at e
    split at e
    · cases e
    · rename_i h
      exact h ps e⟩, fun P hP => ?_, .cons ⟨a, rfl, sq⟩ .nil, ?_⟩
  · obtain ⟨ps, e, t⟩ := tb P hP
    exact ⟨by unfold noTb; rw [e], ps, e, t⟩
  rw [h ns hl]
  intro G' H' v g r
  cases r
  exact q H'
theorem law_true {K : PySem.W.Frag} {ca : CA} {G : List RV → Rs RV} (hT : ca.T = []) (h : ∀ ns : List Int, ns.length ≤ 63 → G [.sc ns] = .ok (.d (.bool true))) (vs : List V) (H : Hp) (Q : VK) (E : XK) (s : spTrue K vs H Q E) : spV K ca 1 G vs H Q E :=
  law_trueT h vs H Q E (fun P hP => by rw [hT] at hP; cases hP) s
end VL

namespace VL
open PySem PySem.Spec PyProof.Rows L2

/-! ## reckoning with semantic functions -/
@[simp] theorem fin_nx (e) : (Out.nx e).fin = .ok (.d .none) := rfl
@[simp] theorem fin_rt (r) : (Out.rt r).fin = .ok r := rfl
@[simp] theorem fin_ex (c fs e) : (Out.ex c fs e).fin = .ex c fs := rfl
@[simp] theorem fin_no : Out.no.fin = .no := rfl
/-- a turn's end in a loop -/
def Out.lp : Out → (VEnv → Out) → Out
  | .nx e, k => k e
  | .ct e, k => k e
  | .bk e, _ => .nx e
  | o, _ => o
@[simp] theorem lp_nx (e k) : (Out.nx e).lp k = k e := rfl
@[simp] theorem lp_ct (e k) : (Out.ct e).lp k = k e := rfl
@[simp] theorem lp_bk (e k) : (Out.bk e).lp k = .nx e := rfl
@[simp] theorem lp_rt (r k) : (Out.rt r).lp k = .rt r := rfl
@[simp] theorem lp_ex (c fs e k) : (Out.ex c fs e).lp k = .ex c fs e := rfl
@[simp] theorem lp_no (k) : Out.no.lp k = .no := rfl
@[simp] theorem loopF_nil (tg f env) : loopF tg f [] env = .nx env := rfl
theorem loopF_cons (tg f x xs env) : loopF tg f (x :: xs) env = match tgE tg x env with
  | none => .no
  | some e1 => (f e1).lp (loopF tg f xs) := by
  unfold loopF
  cases tgE tg x env with
  | none => rfl
  | some e1 => cases h : f e1 <;> simp [h, Out.lp]
theorem loopW_succ (c f n env) : loopW c f (n + 1) env = (c env).out env fun b => if b = true then (f env).lp (loopW c f n) else .nx env := by
  unfold loopW
  cases c env with
  | ok b => cases b with
    | false => rfl
    | true => simp only [Rs.out_ok, if_true]; cases h : f env <;> simp [h, Out.lp]
  | ex c fs => rfl
  | no => rfl
/-- a loop by a relation of what it carries; i: the turns so far -/
theorem loopF_go {α β : Type} {tg : Tg} {f : VEnv → Out} (R : Nat → α → VEnv → Prop) (emb : β → PyData) (step : α → β → α) : ∀ (xs : List β) (j : Nat) (s : α) (env : VEnv),
    (∀ i s env x, xs[i]? = some x → R (j + i) s env → ∃ e1, tgE tg (emb x) env = some e1 ∧ ∃ env', (f e1 = .nx env' ∨ f e1 = .ct env') ∧ R (j + i + 1) (step s x) env') → R j s env → ∃ env', loopF tg f (xs.map emb) env = .nx env' ∧ R (j + xs.length) (xs.foldl step s) env'
  | [], j, s, env, _, h => ⟨env, rfl, h⟩
  | x :: xs, j, s, env, hs, h => by
    obtain ⟨e1, t1, env', fe, r⟩ := hs 0 s env x rfl h
    obtain ⟨env2, l2, r2⟩ := loopF_go R emb step xs (j + 1) (step s x) env' (fun i s env y hy => by
      have := hs (i + 1) s env y (by simpa using hy)
      rw [show j + (i + 1) = j + 1 + i by omega] at this
      exact this) r
    refine ⟨env2, ?_, ?_⟩
    · rw [List.map_cons, loopF_cons, t1]
      rcases fe with fe | fe <;> simp only [fe, Out.lp] <;> exact l2
    · rw [List.length_cons, show j + (xs.length + 1) = j + 1 + xs.length by omega]; exact r2
theorem loopF_rel {α β : Type} {tg : Tg} {f : VEnv → Out} (R : Nat → α → VEnv → Prop) (emb : β → PyData) (step : α → β → α) (xs : List β) (s : α) (env : VEnv)
    (h : ∀ i s env x, xs[i]? = some x → R i s env → ∃ e1, tgE tg (emb x) env = some e1 ∧ ∃ env', (f e1 = .nx env' ∨ f e1 = .ct env') ∧ R (i + 1) (step s x) env') (h0 : R 0 s env) : ∃ env', loopF tg f (xs.map emb) env = .nx env' ∧ R xs.length (xs.foldl step s) env' := by
  have := loopF_go R emb step xs 0 s env (fun i s env x hx r => by rw [Nat.zero_add] at r ⊢; exact h i s env x hx r) h0
  rw [Nat.zero_add] at this
  exact this
/-- .. with a return on the way -/
def foldU {α β γ : Type} (step : α → β → Sum α γ) : List β → α → Sum α γ
  | [], s => .inl s
  | x :: xs, s => match step s x with
    | .inl s' => foldU step xs s'
    | .inr r => .inr r
theorem loopF_retgo {α β : Type} {tg : Tg} {f : VEnv → Out} (R : Nat → α → VEnv → Prop) (emb : β → PyData) (step : α → β → Sum α RV) : ∀ (xs : List β) (j : Nat) (s : α) (env : VEnv),
    (∀ i s env x, xs[i]? = some x → R (j + i) s env → ∃ e1, tgE tg (emb x) env = some e1 ∧ match step s x with
      | .inl s' => ∃ env', (f e1 = .nx env' ∨ f e1 = .ct env') ∧ R (j + i + 1) s' env'
      | .inr r => f e1 = .rt r) → R j s env → match foldU step xs s with
      | .inl s' => ∃ env', loopF tg f (xs.map emb) env = .nx env' ∧ R (j + xs.length) s' env'
      | .inr r => loopF tg f (xs.map emb) env = .rt r
  | [], j, s, env, _, h => ⟨env, rfl, h⟩
  | x :: xs, j, s, env, hs, h => by
    obtain ⟨e1, t1, q⟩ := hs 0 s env x rfl h
    have e0 : loopF tg f ((x :: xs).map emb) env = (f e1).lp (loopF tg f (xs.map emb)) := by rw [List.map_cons, loopF_cons, t1]
    rw [e0]
    unfold foldU
    cases hst : step s x with
    | inr r => rw [hst] at q; simp only at q ⊢; rw [q]; rfl
    | inl s' =>
      rw [hst] at q
      simp only at q ⊢
      obtain ⟨env', fe, r⟩ := q
      have e2 : (f e1).lp (loopF tg f (xs.map emb)) = loopF tg f (xs.map emb) env' := by rcases fe with fe | fe <;> rw [fe] <;> rfl
      rw [e2, List.length_cons, show j + (xs.length + 1) = j + 1 + xs.length by omega]
      exact loopF_retgo R emb step xs (j + 1) s' env' (fun i s env y hy => by
        have := hs (i + 1) s env y (by simpa using hy)
        rw [show j + (i + 1) = j + 1 + i by omega] at this
        exact this) r
theorem loopF_ret {α β : Type} {tg : Tg} {f : VEnv → Out} (R : Nat → α → VEnv → Prop) (emb : β → PyData) (step : α → β → Sum α RV) (xs : List β) (s : α) (env : VEnv)
    (h : ∀ i s env x, xs[i]? = some x → R i s env → ∃ e1, tgE tg (emb x) env = some e1 ∧ match step s x with
      | .inl s' => ∃ env', (f e1 = .nx env' ∨ f e1 = .ct env') ∧ R (i + 1) s' env'
      | .inr r => f e1 = .rt r) (h0 : R 0 s env) : match foldU step xs s with
      | .inl s' => ∃ env', loopF tg f (xs.map emb) env = .nx env' ∧ R xs.length s' env'
      | .inr r => loopF tg f (xs.map emb) env = .rt r := by
  have := loopF_retgo R emb step xs 0 s env (fun i s env x hx r => by rw [Nat.zero_add] at r ⊢; exact h i s env x hx r) h0
  rw [Nat.zero_add] at this
  exact this
@[simp] theorem lcF_nil (tg t fe env) : lcF tg t fe env [] = .ok [] := rfl
/-- a comprehension -/
theorem lcF_map {β : Type} {tg : Tg} {t : VEnv → Rs Bool} {fe : VEnv → Rs RV} {env : VEnv} (emb : β → PyData) (p : β → Bool) (g : β → PyData) : ∀ (xs : List β),
    (∀ x ∈ xs, ∃ e1, tgE tg (emb x) env = some e1 ∧ t e1 = .ok (p x) ∧ (p x = true → ∃ r, fe e1 = .ok r ∧ r.toD = some (g x))) → lcF tg t fe env (xs.map emb) = .ok ((xs.filter p).map g)
  | [], _ => rfl
  | x :: xs, h => by
    obtain ⟨e1, t1, c1, f1⟩ := h x List.mem_cons_self
    have ih := lcF_map (tg := tg) (t := t) (fe := fe) (env := env) emb p g xs fun y hy => h y (List.mem_cons_of_mem _ hy)
    rw [List.map_cons]
    unfold lcF
    rw [t1]
    simp only
    rw [c1]
    cases hp : p x with
    | false => simp only; rw [ih, List.filter_cons_of_neg (by simp [hp])]
    | true =>
      obtain ⟨r, f2, f3⟩ := f1 hp
      simp only
      rw [f2]
      simp only
      rw [f3]
      simp only
      rw [ih, List.filter_cons_of_pos hp]
      rfl
end VL

namespace VL
open PySem PySem.Spec PyProof.Rows L2
section
variable (f g : VEnv → Out) (fa fb : VEnv → Rs RV) (fA : VEnv → Rs (List RV)) (tb tc : VEnv → Rs Bool) (env : VEnv) (i j : Nat) (x y : PyData) (xs ys : List PyData)
@[simp] theorem e_nil : sNil env = .nx env := rfl
@[simp] theorem e_seq : sSeq f g env = (f env).then g := rfl
@[simp] theorem e_fz : sFz i f env = f (fzE i env) := rfl
@[simp] theorem e_bk : sBk env = .bk env := rfl
@[simp] theorem e_ct : sCt env = .ct env := rfl
@[simp] theorem e_ret : sRet fa env = (fa env).out env fun r => (r.nb).out env .rt := rfl
@[simp] theorem e_retN : sRetN env = .rt (.d .none) := rfl
@[simp] theorem e_drop : sDrop fa env = (fa env).out env fun _ => .nx env := rfl
@[simp] theorem e_set : sSet i fa env = (fa env).out env fun r => putS i r env := rfl
@[simp] theorem e_if : sIf tb f g env = (tb env).out env fun b => if b = true then f env else g env := rfl
@[simp] theorem e_for (tg src) : sFor tg src f env = (src env).out env fun xs => loopF tg f xs env := rfl
@[simp] theorem e_cC : cC x env = .ok (.d x) := rfl
@[simp] theorem e_c2 (h) : c2 h fa fb env = (fa env).bind fun x => (fb env).bind fun y => h x y := rfl
@[simp] theorem e_c1 (h) : c1 h fa env = (fa env).bind h := rfl
@[simp] theorem e_cA (h) : cA h fA env = (fA env).bind h := rfl
@[simp] theorem e_aN : aN env = .ok [] := rfl
@[simp] theorem e_aC : aC fa fA env = (fa env).bind fun x => (fA env).bind fun xs => .ok (x :: xs) := rfl
@[simp] theorem e_cB : cB fa env = (fa env).bind asB := rfl
@[simp] theorem e_asB (b : Bool) : asB (.d (.bool b)) = .ok b := rfl
@[simp] theorem e_bNot : bNot tb env = (tb env).bind fun b => .ok (!b) := rfl
@[simp] theorem e_bAnd : bAnd tb tc env = (tb env).bind fun b => if b = true then tc env else .ok false := rfl
@[simp] theorem e_bOr : bOr tb tc env = (tb env).bind fun b => if b = true then .ok true else tc env := rfl
@[simp] theorem e_vAnd : vAnd fa fb env = (cB fa env).bind fun b => if b = true then fb env else .ok (.d (.bool false)) := rfl
@[simp] theorem e_vOr : vOr fa fb env = (cB fa env).bind fun b => if b = true then .ok (.d (.bool true)) else fb env := rfl
@[simp] theorem e_vNot : vNot fa env = (cB fa env).bind fun b => .ok (.d (.bool (!b))) := rfl
@[simp] theorem e_vIf : vIf tb fa fb env = (tb env).bind fun b => if b = true then fa env else fb env := rfl
@[simp] theorem e_bYes : bYes env = .ok true := rfl
@[simp] theorem e_iL : iL fa env = (fa env).bind gL := rfl
@[simp] theorem e_iT : iT fa env = (fa env).bind gT := rfl
@[simp] theorem e_iLb : iLb fa env = (fa env).bind gLb := rfl
@[simp] theorem e_iR (h) : iR h fA env = (fA env).bind h := rfl
@[simp] theorem e_gL1 : gL (.d (.list xs)) = .ok xs := rfl
@[simp] theorem e_gL2 : gL (.ol xs) = .ok xs := rfl
@[simp] theorem e_gL3 (ns) : gL (.sc ns) = .ok (ns.map .int) := rfl
@[simp] theorem e_gT : gT (.d (.tuple xs)) = .ok xs := rfl
@[simp] theorem e_gLb1 : gLb (.d (.list xs)) = .ok xs := rfl
@[simp] theorem e_gLb2 : gLb (.ol xs) = .ok xs := rfl
@[simp] theorem e_gLb3 : gLb (.bl xs) = .ok xs := rfl
@[simp] theorem e_gLb4 (ns) : gLb (.sc ns) = .ok (ns.map .int) := rfl
@[simp] theorem e_nb1 : (RV.d x).nb = .ok (.d x) := rfl
@[simp] theorem e_nb2 : (RV.ol xs).nb = .ok (.ol xs) := rfl
@[simp] theorem e_bor1 : (RV.d x).bor = .d x := rfl
@[simp] theorem e_bor2 : (RV.ol xs).bor = .bl xs := rfl
@[simp] theorem e_bor3 : (RV.bl xs).bor = .bl xs := rfl
@[simp] theorem e_bor4 (ns) : (RV.sc ns).bor = .sc ns := rfl
@[simp] theorem e_arg1 : (RV.d x).arg = .d x := rfl
@[simp] theorem e_arg2 : (RV.ol xs).arg = .d (.list xs) := rfl
@[simp] theorem e_arg3 : (RV.bl xs).arg = .bl xs := rfl
@[simp] theorem e_arg4 (ns) : (RV.sc ns).arg = .sc ns := rfl
@[simp] theorem e_putd : putS i (.d x) env = if i < env.length then .nx (env.set i (some (.d x))) else .no := rfl
@[simp] theorem e_puto : putS i (.ol xs) env = if i < env.length then .nx (env.set i (some (.ol xs))) else .no := rfl
@[simp] theorem e_toD1 : (RV.d x).toD = some x := rfl
@[simp] theorem e_toD2 : (RV.ol xs).toD = some (.list xs) := rfl
@[simp] theorem e_allD0 : allD [] = some [] := rfl
@[simp] theorem e_allD1 (rs) : allD (.d x :: rs) = (allD rs).map (x :: ·) := by cases h : allD rs <;> simp [allD, h]
@[simp] theorem e_allD2 (rs) : allD (.ol xs :: rs) = (allD rs).map (.list xs :: ·) := by cases h : allD rs <;> simp [allD, h]
@[simp] theorem e_gTupl (rs) : gTupl rs = (rsO (allD rs)).bind fun ds => if ds.length ≤ 1000 then .ok (.d (.tuple ds)) else .no := rfl
@[simp] theorem e_gList (rs) : gList rs = (rsO (allD rs)).bind fun ds => if ds.length ≤ 1000 then .ok (.ol ds) else .no := rfl
@[simp] theorem e_tgnm : tgE (.nm i) x env = if i < env.length then some (env.set i (some (.d x))) else none := rfl
@[simp] theorem e_tgtp (is) : tgE (.tp is) (.tuple xs) env = tgEs is xs env := rfl
@[simp] theorem e_tg0 : tgEs [] [] env = some env := rfl
@[simp] theorem e_tg1 (is) : tgEs (i :: is) (x :: xs) env = if i < env.length then tgEs is xs (env.set i (some (.d x))) else none := rfl
@[simp] theorem e_sq1 : (RV.d (.tuple xs)).sq = some xs := rfl
@[simp] theorem e_sq2 : (RV.d (.list xs)).sq = some xs := rfl
@[simp] theorem e_sq3 : (RV.ol xs).sq = some xs := rfl
@[simp] theorem e_sq4 : (RV.bl xs).sq = some xs := rfl
@[simp] theorem e_sq5 (ns) : (RV.sc ns).sq = some (ns.map .int) := rfl
@[simp] theorem e_qv2 : (RV.d (.list xs)).qv = some xs := rfl
@[simp] theorem e_qv3 : (RV.ol xs).qv = some xs := rfl
@[simp] theorem e_qv4 : (RV.bl xs).qv = some xs := rfl
@[simp] theorem e_qv5 (ns) : (RV.sc ns).qv = some (ns.map .int) := rfl
@[simp] theorem e_data1 : (RV.d x).data = some x := rfl
@[simp] theorem e_data2 : (RV.ol xs).data = some (.list xs) := rfl
@[simp] theorem e_data3 : (RV.bl xs).data = some (.list xs) := rfl
@[simp] theorem e_okI (a : Int) : okI a = .ok (.d (.int a)) := rfl
@[simp] theorem e_okB (a : Bool) : okB a = .ok (.d (.bool a)) := rfl
@[simp] theorem e_i2 (h : Int → Int → Rs RV) (a b : Int) : RV.i2 h (.d (.int a)) (.d (.int b)) = h a b := rfl
@[simp] theorem e_sub (a b : Int) : gSub (.d (.int a)) (.d (.int b)) = .ok (.d (.int (a - b))) := rfl
@[simp] theorem e_mul (a b : Int) : gMul (.d (.int a)) (.d (.int b)) = if a.natAbs < 18446744073709551616 ∨ b.natAbs < 18446744073709551616 then .ok (.d (.int (a * b))) else .no := rfl
@[simp] theorem e_mod (a b : Int) : gMod (.d (.int a)) (.d (.int b)) = if 0 < b then .ok (.d (.int (a % b))) else .no := rfl
@[simp] theorem e_div (a b : Int) : gDiv (.d (.int a)) (.d (.int b)) = if 0 < b ∧ b.natAbs < 1073741824 then .ok (.d (.int (a / b))) else .no := rfl
@[simp] theorem e_pow (a b : Int) : gPow (.d (.int a)) (.d (.int b)) = if 0 ≤ b ∧ b ≤ 1000000 ∧ a.natAbs < 2 ^ 64 then .ok (.d (.int (a ^ b.toNat))) else .no := rfl
@[simp] theorem e_lt (a b : Int) : gLt (.d (.int a)) (.d (.int b)) = .ok (.d (.bool (decide (a < b)))) := rfl
@[simp] theorem e_le (a b : Int) : gLe (.d (.int a)) (.d (.int b)) = .ok (.d (.bool (decide (a ≤ b)))) := rfl
@[simp] theorem e_gt (a b : Int) : gGt (.d (.int a)) (.d (.int b)) = .ok (.d (.bool (decide (b < a)))) := rfl
@[simp] theorem e_ge (a b : Int) : gGe (.d (.int a)) (.d (.int b)) = .ok (.d (.bool (decide (b ≤ a)))) := rfl
@[simp] theorem e_neg (a : Int) : gNeg (.d (.int a)) = .ok (.d (.int (-a))) := rfl
@[simp] theorem e_addI (a b : Int) : gAdd (.d (.int a)) (.d (.int b)) = .ok (.d (.int (a + b))) := rfl
@[simp] theorem e_addS (a b : Str) : gAdd (.d (.str a)) (.d (.str b)) = if a.length + b.length ≤ 1000000 then .ok (.d (.str (a ++ b))) else .no := rfl
@[simp] theorem e_addT : gAdd (.d (.tuple xs)) (.d (.tuple ys)) = if xs.length + ys.length ≤ 1000000 then .ok (.d (.tuple (xs ++ ys))) else .no := rfl
@[simp] theorem e_addL1 : gAdd (.ol xs) (.ol ys) = if xs.length + ys.length ≤ 1000000 then .ok (.ol (xs ++ ys)) else .no := rfl
@[simp] theorem e_addL2 : gAdd (.ol xs) (.bl ys) = if xs.length + ys.length ≤ 1000000 then .ok (.ol (xs ++ ys)) else .no := rfl
@[simp] theorem e_addL3 : gAdd (.bl xs) (.ol ys) = if xs.length + ys.length ≤ 1000000 then .ok (.ol (xs ++ ys)) else .no := rfl
@[simp] theorem e_addL4 : gAdd (.bl xs) (.bl ys) = if xs.length + ys.length ≤ 1000000 then .ok (.ol (xs ++ ys)) else .no := rfl
@[simp] theorem e_addL5 : gAdd (.d (.list xs)) (.ol ys) = if xs.length + ys.length ≤ 1000000 then .ok (.ol (xs ++ ys)) else .no := rfl
@[simp] theorem e_addL6 : gAdd (.d (.list xs)) (.bl ys) = if xs.length + ys.length ≤ 1000000 then .ok (.ol (xs ++ ys)) else .no := rfl
@[simp] theorem e_addL7 : gAdd (.ol xs) (.d (.list ys)) = if xs.length + ys.length ≤ 1000000 then .ok (.ol (xs ++ ys)) else .no := rfl
@[simp] theorem e_addL8 : gAdd (.bl xs) (.d (.list ys)) = if xs.length + ys.length ≤ 1000000 then .ok (.ol (xs ++ ys)) else .no := rfl
@[simp] theorem e_addL9 : gAdd (.d (.list xs)) (.d (.list ys)) = if xs.length + ys.length ≤ 1000000 then .ok (.ol (xs ++ ys)) else .no := rfl
@[simp] theorem e_eq (a b : RV) : gEq a b = (rsO a.data).bind fun x => (rsO b.data).bind fun y => if SeqAt.shaped x = true ∧ SeqAt.shaped y = true then okB (PyData.eqv x y) else .no := rfl
@[simp] theorem e_ne (a b : RV) : gNe a b = (rsO a.data).bind fun x => (rsO b.data).bind fun y => if SeqAt.shaped x = true ∧ SeqAt.shaped y = true then okB (!PyData.eqv x y) else .no := rfl
@[simp] theorem e_in (a b : RV) : gIn a b = (gInB a b).bind okB := rfl
@[simp] theorem e_notIn (a b : RV) : gNotIn a b = (gInB a b).bind fun k => okB (!k) := rfl
@[simp] theorem e_inT (a : Int) : gInB (.d (.int a)) (.d (.tuple xs)) = if SeqAt.shaped (.int a) = true ∧ SeqAt.shaped (.tuple xs) = true then .ok (xs.any fun z => PyData.eqv z (.int a)) else .no := rfl
@[simp] theorem e_inT2 : gInB (.d (.tuple ys)) (.d (.tuple xs)) = if SeqAt.shaped (.tuple ys) = true ∧ SeqAt.shaped (.tuple xs) = true then .ok (xs.any fun z => PyData.eqv z (.tuple ys)) else .no := rfl
@[simp] theorem e_inL1 : gInB (.d x) (.d (.list xs)) = if SeqAt.shaped x = true ∧ SeqAt.shaped (.list xs) = true then .ok (xs.any fun z => PyData.eqv z x) else .no := by cases x <;> rfl
@[simp] theorem e_inL2 : gInB (.d x) (.ol xs) = if SeqAt.shaped x = true ∧ SeqAt.shaped (.list xs) = true then .ok (xs.any fun z => PyData.eqv z x) else .no := by cases x <;> rfl
@[simp] theorem e_inL3 : gInB (.d x) (.bl xs) = if SeqAt.shaped x = true ∧ SeqAt.shaped (.list xs) = true then .ok (xs.any fun z => PyData.eqv z x) else .no := by cases x <;> rfl
@[simp] theorem e_is (a : RV) : gIs a (.d .none) = .ok (.d (.bool (isNone a))) := rfl
@[simp] theorem e_isNot (a : RV) : gIsNot a (.d .none) = .ok (.d (.bool (!isNone a))) := rfl
@[simp] theorem e_isN1 : isNone (.d .none) = true := rfl
@[simp] theorem e_isN2 (a : Int) : isNone (.d (.int a)) = false := rfl
@[simp] theorem e_isN3 : isNone (.d (.tuple xs)) = false := rfl
@[simp] theorem e_isN4 : isNone (.d (.list xs)) = false := rfl
@[simp] theorem e_isN5 : isNone (.ol xs) = false := rfl
@[simp] theorem e_isN6 : isNone (.bl xs) = false := rfl
@[simp] theorem e_isN7 (s) : isNone (.d (.str s)) = false := rfl
@[simp] theorem e_ixT (a : Int) : gIx (.d (.tuple xs)) (.d (.int a)) = (rsO (atI xs a)).bind fun d => .ok (.d d) := rfl
@[simp] theorem e_ixL (a : Int) : gIx (.d (.list xs)) (.d (.int a)) = (rsO (atI xs a)).bind fun d => .ok (.d d) := rfl
@[simp] theorem e_ixO (a : Int) : gIx (.ol xs) (.d (.int a)) = (rsO (atI xs a)).bind fun d => .ok (.d d) := rfl
@[simp] theorem e_ixB (a : Int) : gIx (.bl xs) (.d (.int a)) = (rsO (atI xs a)).bind fun d => .ok (.d d) := rfl
@[simp] theorem e_ixSc (a : Int) (ns) : gIx (.sc ns) (.d (.int a)) = (rsO (atI (ns.map .int) a)).bind fun d => .ok (.d d) := rfl
@[simp] theorem e_ixS (a : Int) (z : Str) : gIx (.d (.str z)) (.d (.int a)) = if z.length ≤ 1000000 then (rsO (atI z.cps.toList a)).bind fun c => .ok (.d (.str ⟨#[c]⟩)) else .no := rfl
@[simp] theorem e_lenT : gLen [.d (.tuple xs)] = .ok (.d (.int xs.length)) := rfl
@[simp] theorem e_lenL : gLen [.d (.list xs)] = .ok (.d (.int xs.length)) := rfl
@[simp] theorem e_lenO : gLen [.ol xs] = .ok (.d (.int xs.length)) := rfl
@[simp] theorem e_lenB : gLen [.bl xs] = .ok (.d (.int xs.length)) := rfl
@[simp] theorem e_lenSc (ns : List Int) : gLen [.sc ns] = .ok (.d (.int ns.length)) := by show okI _ = _; simp
@[simp] theorem e_lenS (z : Str) : gLen [.d (.str z)] = if z.length ≤ 1000000 then .ok (.d (.int z.length)) else .no := rfl
@[simp] theorem e_tupT : gTupleC [.d (.tuple xs)] = .ok (.d (.tuple xs)) := rfl
@[simp] theorem e_tupL : gTupleC [.d (.list xs)] = .ok (.d (.tuple xs)) := rfl
@[simp] theorem e_tupO : gTupleC [.ol xs] = .ok (.d (.tuple xs)) := rfl
@[simp] theorem e_tupB : gTupleC [.bl xs] = .ok (.d (.tuple xs)) := rfl
@[simp] theorem e_lisT : gListC [.d (.tuple xs)] = .ok (.ol xs) := rfl
@[simp] theorem e_lisL : gListC [.d (.list xs)] = .ok (.ol xs) := rfl
@[simp] theorem e_lisO : gListC [.ol xs] = .ok (.ol xs) := rfl
@[simp] theorem e_lisB : gListC [.bl xs] = .ok (.ol xs) := rfl
@[simp] theorem e_min2 (a b : Int) : gMin2 [.d (.int a), .d (.int b)] = .ok (.d (.int (if b < a then b else a))) := rfl
@[simp] theorem e_max2 (a b : Int) : gMax2 [.d (.int a), .d (.int b)] = .ok (.d (.int (if b > a then b else a))) := rfl
@[simp] theorem e_any (r : RV) : gAny [r] = (rsO r.qv).bind fun xs => (rsO (boolsD xs)).bind fun bs => okB (bs.any id) := rfl
@[simp] theorem e_all (r : RV) : gAll [r] = (rsO r.qv).bind fun xs => (rsO (boolsD xs)).bind fun bs => okB (bs.all id) := rfl
@[simp] theorem e_sum (r : RV) : gSum [r] = (rsO r.qv).bind fun xs => (rsO (intsD xs)).bind fun bs => okI bs.sum := rfl
@[simp] theorem e_sorted (r : RV) : gSorted [r] = (rsO r.qv).bind fun xs => (rsO (intsD xs)).bind fun ns => .ok (.ol ((isort ns).map .int)) := rfl
@[simp] theorem e_rev (r : RV) : gRev r = (rsO r.qv).bind fun xs => .ok (.ol xs.reverse) := rfl
theorem e_R1 {a : Int} (h : a.natAbs ≤ 1000000) : gR1 [.d (.int a)] = .ok (rngL 0 a.toNat) := if_pos h
theorem e_R1n {n : Nat} (h : n ≤ 1000000) : gR1 [.d (.int n)] = .ok (rngL 0 n) := e_R1 (a := (n : Int)) h
theorem e_R2 {a b : Int} (h : a.natAbs ≤ 1000000) (h2 : b.natAbs ≤ 1000000) : gR2 [.d (.int a), .d (.int b)] = .ok (rngL a (b - a).toNat) := if_pos ⟨h, h2⟩
theorem e_R3 {a b : Int} (h : a.natAbs ≤ 1000000) (h2 : b.natAbs ≤ 1000000) : gR3 [.d (.int a), .d (.int b), .d (.int (-1))] = .ok ((List.range (a - b).toNat).map fun k : Nat => .int (a - (k : Int))) := if_pos ⟨rfl, h, h2⟩
@[simp] theorem e_sl (l h) : cSl fa l h env = (fa env).bind fun r => (l env).bind fun lo => (h env).bind fun hi => gSl r lo hi := rfl
@[simp] theorem e_oN : oN env = .ok none := rfl
@[simp] theorem e_isi (T : String) (r : RV) : gIsi T r = (rsO (r.data.bind tyD)).bind fun t => (rsO (kitB t T)).bind okB := rfl
@[simp] theorem e_lc (src own tg t) : cLc src own tg t fa env = (src env).bind fun xs => if xs.length ≤ 1000000 then (lcF tg t fa (wipeE env own) xs).bind fun ds => .ok (.ol ds) else .no := rfl
@[simp] theorem e_wipe0 : wipeE env [] = env := rfl
@[simp] theorem e_wipe1 (is) : wipeE env (i :: is) = (wipeE env is).set i none := rfl
theorem e_unp (tg) : sUnp tg fa env = (fa env).out env fun r => match r.toD with
  | some x => (match tgE tg x env with | some env' => .nx env' | none => .no)
  | none => .no := rfl
theorem e_app : sApp i fa env = match env[i]? with
  | some (some (.ol xs)) => (fa env).out env fun r => (match r.toD with
    | some d => if xs.length ≤ 1000000 then .nx (env.set i (some (.ol (xs ++ [d])))) else .no
    | none => .no)
  | _ => .no := rfl
theorem e_V : cV i env = match env[i]? with
  | some (some r) => .ok r.bor
  | _ => .no := rfl
theorem e_retV : sRetV i env = match env[i]? with
  | some (some r) => (r.nb).out env .rt
  | _ => .no := rfl
end
/-! ### subscripts -/
theorem atI_lt {α : Type} {xs : List α} {i : Int} (h0 : 0 ≤ i) (h : i < xs.length) : atI xs i = xs[i.toNat]? := by
  unfold atI ixN
  rw [if_pos h0, if_pos h]
  rfl
@[simp] theorem atI_zero {α : Type} (x : α) (xs : List α) : atI (x :: xs) 0 = some x := by
  have h : 0 < (x :: xs).length := by simp
  rw [atI_lt (Int.le_refl 0) (by omega)]
  rfl
theorem rngL_eq (n : Nat) : rngL 0 n = (List.range n).map fun k : Nat => .int (k : Int) := by
  unfold rngL
  congr 1
  funext k
  simp
/-! ### shapes -/
@[simp] theorem sh_int (i : Int) : SeqAt.shaped (.int i) = true := rfl
@[simp] theorem sh_none : SeqAt.shaped .none = true := rfl
@[simp] theorem sh_bool (b : Bool) : SeqAt.shaped (.bool b) = true := rfl
theorem can_ints : ∀ ns : List Int, PyData.canLayAll0 (ns.map .int) = true
  | [] => rfl
  | n :: ns => can_ints ns
theorem dep_ints : ∀ ns : List Int, PyData.depthAll (ns.map .int) = 0
  | [] => rfl
  | n :: ns => by rw [List.map_cons, PyData.depthAll, PyData.depth, dep_ints ns]; rfl
@[simp] theorem sh_tup (ns : List Int) : SeqAt.shaped (.tuple (ns.map .int)) = true := by
  unfold SeqAt.shaped
  rw [PyData.depth, dep_ints, PyData.canLay0, can_ints]
  rfl
@[simp] theorem sh_lst (ns : List Int) : SeqAt.shaped (.list (ns.map .int)) = true := by
  unfold SeqAt.shaped
  rw [PyData.depth, dep_ints, PyData.canLay0, can_ints]
  rfl
@[simp] theorem eqv_int (i j : Int) : PyData.eqv (.int i) (.int j) = decide (i = j) := by
  rw [PyData.eqv]
  by_cases h : i = j <;> simp [h]
theorem eqvAll_ints : ∀ xs ys : List Int, PyData.eqvAll (xs.map .int) (ys.map .int) = decide (xs = ys)
  | [], [] => rfl
  | [], _ :: _ => rfl
  | _ :: _, [] => rfl
  | x :: xs, y :: ys => by
    rw [List.map_cons, List.map_cons, PyData.eqvAll, eqvAll_ints xs ys, eqv_int]
    by_cases h : x = y <;> by_cases h2 : xs = ys <;> simp [h, h2]
@[simp] theorem eqv_tup (xs ys : List Int) : PyData.eqv (.tuple (xs.map .int)) (.tuple (ys.map .int)) = decide (xs = ys) := by rw [PyData.eqv, eqvAll_ints]
@[simp] theorem eqv_lst (xs ys : List Int) : PyData.eqv (.list (xs.map .int)) (.list (ys.map .int)) = decide (xs = ys) := by rw [PyData.eqv, eqvAll_ints]
theorem anyI (ns : List Int) (i : Int) : ((ns.map PyData.int).any fun z => PyData.eqv z (.int i)) = decide (i ∈ ns) := by
  rw [List.any_map]
  induction ns with
  | nil => rfl
  | cons n ns ih =>
    rw [List.any_cons, ih]
    simp only [Function.comp, eqv_int]
    by_cases h : n = i
    · simp [h]
    · by_cases h2 : i ∈ ns <;> simp [h, h2, Ne.symm h]
@[simp] theorem anyI' (ns : List Int) (i : Int) : (ns.any ((fun z => PyData.eqv z (.int i)) ∘ PyData.int)) = decide (i ∈ ns) := by rw [← List.any_map]; exact anyI ns i
end VL

namespace VL
open PySem PySem.Spec PyProof.Rows L2
/-! ## more constructs -/
section
variable {K : PySem.W.Frag} {ca : CA}
def gRep (a b : RV) : Rs RV := match b with
  | .d (.int k) => (rsO a.lv).bind fun xs => if k.natAbs ≤ 1000000 ∧ xs.length * k.toNat ≤ 1000000 then .ok (.ol (List.replicate k.toNat xs).flatten) else .no
  | _ => .no
theorem DqA.rep {F : Hp} {ds : List PyData} {vs : List V} (h : DqA K F vs ds) : ∀ k : Nat, DqA K F (List.replicate k vs).flatten (List.replicate k ds).flatten
  | 0 => .nil
  | k + 1 => by
    rw [List.replicate_succ, List.replicate_succ, List.flatten_cons, List.flatten_cons]
    exact h.append (DqA.rep h k)
theorem s_rep : Op2S K ca rRep gRep := by
  intro W σ F0 H0 F H v1 v2 a b Q gr h1 h2 p
  unfold gRep at p
  split at p
  · rename_i k
    cases h2
    cases e : a.lv with
    | none => rw [e] at p; exact p.elim
    | some xs =>
      rw [e] at p
      simp only [rsO_some, Rs.bind_ok] at p
      split at p
      · rename_i hk
        obtain ⟨p1, vs, rfl, a1, q1⟩ := lv_ok gr.cfg.sub h1 e
        refine ⟨p1, k, vs, rfl, rfl, a1, by omega, by omega, ?_, fun l hl => ?_⟩
        · rw [q1.length]; exact Nat.le_of_lt (million hk.2)
        · have g2 := Grow.newO gr.cfg (.lst (List.replicate k.toNat vs).flatten) hl (fun _ z => by cases z)
          exact p _ _ _ (gr.trans g2) ⟨l, _, rfl, none_n gr.hh hl, same_none gr.cfg.sub hl, upd_same, q1.rep k.toNat⟩
      · exact p.elim
  · exact p.elim
end
section
variable {ca : CA} {W : WX} {X : Cx} {a b c e : Expr} {es : List Expr} {fa fb fc : VEnv → Rs RV} {pos : Pos} {st : Stmt}
def sNo : VEnv → Out := fun _ => .no
theorem vs_never : VS ca W X st sNo := ⟨_, ps_never, fun _ _ _ _ _ _ _ p => p.elim⟩
/-! ### a list or a tuple walked -/
def iAny (K : PySem.W.Frag) (tl : TE) : TI := fun σ H R => tl σ H fun x H1 => ∃ a, x = .ref a ∧ (((∃ xs, SqL K H1 a xs) ∧ R (Itl K a) H1) ∨ ((∃ xs, SqT K H1 a xs) ∧ R (Itt K a) H1))
theorem pi_any {tg : Expr} {tl : TE} (hl : PE X e tl) : PI X tg e (iAny X.K tl) := by
  refine ⟨fun pns s0 σ H R I hyp => ?_⟩
  refine thn (hl.run pns s0 σ H _ I hyp) fun v s1 ⟨x, H1, I1, r1, a, ex, alt⟩ => ?_
  subst ex
  cases r1
  have fresh : ∀ b ∈ [s1.heap.objs.size], b = s1.heap.objs.size := fun b hb => by simpa using hb
  rcases alt with ⟨⟨xs, hq⟩, q⟩ | ⟨⟨xs, hq⟩, q⟩
  · obtain ⟨its, rv, pl, hz⟩ := I1.list hq
    refine wpAny_pyIter_list pl.isList ⟨s1.heap.objs.size, [s1.heap.objs.size], _, _, H1, rfl, I1.kept (t' := s1.toks) fun _ _ k => Heap.get?_push_of_some _ k, turn_list a _, ⟨_, Heap.get?_push_size _ rfl, rfl, rfl⟩, fun b hb => ?_, q⟩
    have eb := fresh b hb
    subst eb
    exact I1.fpOk (Nat.le_refl _) (I1.hok.fresh (Nat.le_refl _))
  · obtain ⟨its, rv, pl, hz⟩ := I1.tuple hq
    have pt : s1.heap.IsTuple a its.toArray := pl
    refine wpAny_pyIter_tuple pt ⟨s1.heap.objs.size, [s1.heap.objs.size], _, _, H1, rfl, I1.kept (t' := s1.toks) fun _ _ k => Heap.get?_push_of_some _ k, turn_tuple a _, ⟨_, Heap.get?_push_size _ rfl, rfl, rfl⟩, fun b hb => ?_, q⟩
    have eb := fresh b hb
    subst eb
    exact I1.fpOk (Nat.le_refl _) (I1.hok.fresh (Nat.le_refl _))
def gAq : RV → Rs (List PyData)
  | .d (.tuple xs) => .ok xs
  | r => gL r
def gAqb : RV → Rs (List PyData)
  | .d (.tuple xs) => .ok xs
  | r => gLb r
def iA (fe : VEnv → Rs RV) : VEnv → Rs (List PyData) := fun env => (fe env).bind gAq
def iAb (fe : VEnv → Rs RV) : VEnv → Rs (List PyData) := fun env => (fe env).bind gAqb
theorem vi_any {tg : Expr} (h : VE ca W X e fa) : VI ca W X tg e (iA fa) := by
  obtain ⟨t, p, s⟩ := h
  refine ⟨_, pi_any p, fun B F env σ H R st q => ?_⟩
  show t σ H fun x H1 => ∃ a, x = .ref a ∧ (((∃ xs, SqL X.K H1 a xs) ∧ R (Itl X.K a) H1) ∨ ((∃ xs, SqT X.K H1 a xs) ∧ R (Itt X.K a) H1))
  refine seqE (PostI X.K ca W σ F H R) s st q (fun _ _ h => h) (fun h => h) fun r F1 H1 v p1 g1 q1 => ?_
  cases r with
  | d x =>
    cases x with
    | list xs =>
      cases q1 with
      | lst h1 h2 => exact ⟨_, rfl, .inl ⟨⟨_, SqL.of (g1.cfg.sub _ _ h1)⟩, p1 _ F1 H1 _ g1 h2 (jw_list (SqL.of h1))⟩⟩
    | tuple xs =>
      cases q1 with
      | tup h1 h2 => exact ⟨_, rfl, .inr ⟨⟨_, same_seqT g1.cfg.sub h1.1⟩, p1 _ F1 H1 _ g1 h2 (jw_tup h1.1)⟩⟩
    | _ => exact p1.elim
  | ol xs =>
    obtain ⟨p, vs, rfl, n0, f, hp, q2⟩ := q1
    have g2 := g1.freeze n0 f hp
    have s2 : Same F1 (upd F1 p (.lst vs)) := fun b u k => by rw [upd_ne (ne_of_none k f)]; exact k
    exact ⟨p, rfl, .inl ⟨⟨_, SqL.of hp⟩, p1 _ _ H1 vs g2 (DqA.mono s2 _ _ q2) (jw_list (SqL.of upd_same))⟩⟩
  | sc ns =>
    obtain ⟨a, rfl, q2⟩ := q1
    exact ⟨a, rfl, .inl ⟨⟨_, g1.cfg.sub.seq q2⟩, p1 _ F1 H1 _ g1 (DqA.of_ints ns) (jw_list q2)⟩⟩
  | _ => exact p1.elim
theorem vj_any {tg : Expr} (h : VE ca W X e fa) : VJ ca W X tg e (iAb fa) := by
  obtain ⟨t, p, s⟩ := h
  refine ⟨_, pi_any p, fun B F env σ H R st q => ?_⟩
  show t σ H fun x H1 => ∃ a, x = .ref a ∧ (((∃ xs, SqL X.K H1 a xs) ∧ R (Itl X.K a) H1) ∨ ((∃ xs, SqT X.K H1 a xs) ∧ R (Itt X.K a) H1))
  refine seqE (PostJ X.K ca W σ F H R) s st q (fun _ _ h => h) (fun h => h) fun r F1 H1 v p1 g1 q1 => ?_
  cases r with
  | d x =>
    cases x with
    | list xs =>
      cases q1 with
      | lst h1 h2 => exact ⟨_, rfl, .inl ⟨⟨_, SqL.of (g1.cfg.sub _ _ h1)⟩, p1 _ F1 H1 _ g1 h2 (jw_list (SqL.of (g1.cfg.sub _ _ h1)))⟩⟩
    | tuple xs =>
      cases q1 with
      | tup h1 h2 => exact ⟨_, rfl, .inr ⟨⟨_, same_seqT g1.cfg.sub h1.1⟩, p1 _ F1 H1 _ g1 h2 (jw_tup (same_seqT g1.cfg.sub h1.1))⟩⟩
    | _ => exact p1.elim
  | ol xs =>
    obtain ⟨p, vs, rfl, n0, f, hp, q2⟩ := q1
    exact ⟨p, rfl, .inl ⟨⟨_, SqL.of hp⟩, p1 _ _ H1 vs g1 q2 (jw_list (SqL.of hp))⟩⟩
  | bl xs =>
    obtain ⟨p, vs, rfl, hp, q2⟩ := q1
    exact ⟨p, rfl, .inl ⟨⟨_, SqL.of hp⟩, p1 _ _ H1 vs g1 q2 (jw_list (SqL.of hp))⟩⟩
  | sc ns =>
    obtain ⟨a, rfl, q2⟩ := q1
    exact ⟨a, rfl, .inl ⟨⟨_, g1.cfg.sub.seq q2⟩, p1 _ F1 H1 _ g1 (DqA.of_ints ns) (jw_list (g1.cfg.sub.seq q2))⟩⟩
  | _ => exact p1.elim
@[simp] theorem e_iA (env : VEnv) : iA fa env = (fa env).bind gAq := rfl
@[simp] theorem e_iAb (env : VEnv) : iAb fa env = (fa env).bind gAqb := rfl
@[simp] theorem e_gAq1 (xs) : gAq (.d (.tuple xs)) = .ok xs := rfl
@[simp] theorem e_gAq2 (xs) : gAq (.d (.list xs)) = .ok xs := rfl
@[simp] theorem e_gAq3 (xs) : gAq (.ol xs) = .ok xs := rfl
@[simp] theorem e_gAqb1 (xs) : gAqb (.d (.tuple xs)) = .ok xs := rfl
@[simp] theorem e_gAqb2 (xs) : gAqb (.d (.list xs)) = .ok xs := rfl
@[simp] theorem e_gAqb3 (xs) : gAqb (.ol xs) = .ok xs := rfl
@[simp] theorem e_gAqb4 (xs) : gAqb (.bl xs) = .ok xs := rfl
@[simp] theorem e_no (env : VEnv) : sNo env = .no := rfl
theorem e_rep {xs : List PyData} {k : Int} {r : RV} (h : r.lv = some xs) (h1 : k.natAbs ≤ 1000000) (h2 : xs.length * k.toNat ≤ 1000000) : gRep r (.d (.int k)) = .ok (.ol (List.replicate k.toNat xs).flatten) := by
  show (rsO r.lv).bind _ = _
  rw [h]
  simp only [rsO_some, Rs.bind_ok]
  rw [if_pos ⟨h1, h2⟩]
theorem e_store (i : Nat) (fi fe : VEnv → Rs RV) (env : VEnv) : sStore i fi fe env = match env[i]? with
  | some (some (.ol xs)) => (fe env).out env fun r => (fi env).out env fun ix => (match r.toD, ix with
    | some d, .d (.int k) => (match ixN xs.length k with
      | some j => .nx (env.set i (some (.ol (xs.set j d))))
      | none => .no)
    | _, _ => .no)
  | _ => .no := rfl
/-! ### a < b < c -/
def cChI (g g' : RV → RV → Rs RV) (fc : VEnv → Rs RV) (env : VEnv) : RV → RV → Rs RV
  | .d (.int m), .d (.int n) => (g (.d (.int m)) (.d (.int n))).bind fun r => (asB r).bind fun k => if k = true then (fc env).bind fun z => g' (.d (.int n)) z else .ok (.d (.bool false))
  | _, _ => .no
def cCh (g g' : RV → RV → Rs RV) (fa fb fc : VEnv → Rs RV) : VEnv → Rs RV := fun env => (fa env).bind fun x => (fb env).bind fun y => cChI g g' fc env x y
@[simp] theorem e_cCh (g g') (env : VEnv) : cCh g g' fa fb fc env = (fa env).bind fun x => (fb env).bind fun y => cChI g g' fc env x y := rfl
@[simp] theorem e_cChI (g g') (env : VEnv) (m n : Int) : cChI g g' fc env (.d (.int m)) (.d (.int n)) = (g (.d (.int m)) (.d (.int n))).bind fun r => (asB r).bind fun k => if k = true then (fc env).bind fun z => g' (.d (.int n)) z else .ok (.d (.bool false)) := rfl
theorem snd_chain {K : PySem.W.Frag} {r r' : R2} {g g' : RV → RV → Rs RV} {ta tb tc : TE} (hr : Op2S K ca r g) (hr' : Op2S K ca r' g') (sa : SndE K ca W ta fa) (sb : SndE K ca W tb fb) (sc : SndE K ca W tc fc) : SndE K ca W (tChain r r' ta tb tc) (cCh g g' fa fb fc) := by
  intro B F env σ H Q st p
  show ta σ H fun x H1 => tb σ H1 fun y H2 => r x y H2 fun z H3 => ∃ k, z = .bl k ∧ (if k = true then tc σ H3 fun w' H4 => r' y w' H4 Q else Q (.bl false) H3)
  refine seqE (PostE K ca W σ F H Q) sa st p (fun _ _ h => h) (fun h => h) fun x F1 H1 v1 p1 g1 q1 => ?_
  refine seqE (PostE K ca W σ F H Q) sb (st.grow g1) p1 (fun _ _ h => PostX.mono g1 h) (fun h => h) fun y F2 H2 v2 p2 g2 q2 => ?_
  have g02 := g1.trans g2
  unfold cChI at p2
  split at p2
  · rename_i m n
    cases q1
    cases q2
    refine hr W σ F2 H2 F2 H2 _ _ (.d (.int m)) (.d (.int n)) _ (Grow.refl g2.cfg) (.int _) (.int _) ?_
    cases e : g (.d (.int m)) (.d (.int n)) with
    | ex c fs => rw [e] at p2; exact PostX.mono g02 p2
    | no => rw [e] at p2; exact p2
    | ok z =>
      rw [e] at p2
      simp only [Rs.bind_ok] at p2
      intro F3 H3 v3 g3 q3
      have g03 := g02.trans g3
      unfold asB at p2
      split at p2
      · rename_i k
        cases q3
        refine ⟨k, rfl, ?_⟩
        cases k with
        | false =>
          rw [if_neg Bool.false_ne_true]
          simp only [Rs.bind_ok, Bool.false_ne_true, if_false] at p2
          exact p2 F3 H3 _ g03 (.bl _)
        | true =>
          rw [if_pos rfl]
          simp only [Rs.bind_ok, if_true] at p2
          refine seqE (PostE K ca W σ F H Q) sc (st.grow g03) p2 (fun _ _ h => PostX.mono g03 h) (fun h => h) fun w F4 H4 v4 p4 g4 q4 => ?_
          exact hr' W σ F H F4 H4 _ v4 (.d (.int n)) w Q (g03.trans g4) (.int _) (q4.older g03.hh) p4
      · exact p2.elim
  · exact p2.elim
theorem ve_chain {op op' : CmpOp} {r r' : R2} {g g' : RV → RV → Rs RV} (ho : OpR X (compareOp op) r) (hr : Op2S X.K ca r g) (ho' : OpR X (compareOp op') r') (hr' : Op2S X.K ca r' g') (ha : VE ca W X a fa) (hb : VE ca W X b fb) (hc : VE ca W X c fc)
    (hm : lastMarks [op, op'] [b, c] = false := by with_unfolding_all rfl) : VE ca W X (.Compare a [op, op'] [b, c] pos) (cCh g g' fa fb fc) := by
  obtain ⟨ta, pa, sa⟩ := ha
  obtain ⟨tb, pb, sb⟩ := hb
  obtain ⟨tc, pc, sc⟩ := hc
  exact ⟨_, pe_chain ho ho' pa pb pc hm, snd_chain hr hr' sa sb sc⟩
theorem vt_chain {op op' : CmpOp} {r r' : R2} {g g' : RV → RV → Rs RV} (ho : OpR X (compareOp op) r) (hr : Op2S X.K ca r g) (ho' : OpR X (compareOp op') r') (hr' : Op2S X.K ca r' g') (ha : VE ca W X a fa) (hb : VE ca W X b fb) (hc : VE ca W X c fc)
    (hm : lastMarks [op, op'] [b, c] = false := by with_unfolding_all rfl) : VT ca W X (.Compare a [op, op'] [b, c] pos) (cB (cCh g g' fa fb fc)) := by
  obtain ⟨ta, pa, sa⟩ := ha
  obtain ⟨tb, pb, sb⟩ := hb
  obtain ⟨tc, pc, sc⟩ := hc
  exact ⟨_, pt_chain ho ho' pa pb pc hm, snd_test (snd_chain hr hr' sa sb sc)⟩
end
end VL

namespace VL
open PySem PySem.Spec PyProof.Rows L2
theorem e_fzE (i : Nat) (env : VEnv) : fzE i env = match env[i]? with
  | some (some (.ol xs)) => env.set i (some (.d (.list xs)))
  | _ => env := rfl
theorem tyD_list (xs) : tyD (.list xs) = some "list" := rfl
theorem tyD_tuple (xs) : tyD (.tuple xs) = some "tuple" := rfl
theorem tyD_int (a) : tyD (.int a) = some "int" := rfl
theorem kitB_ll : kitB "list" "list" = some true := by decide +kernel
theorem kitB_tt : kitB "tuple" "tuple" = some true := by decide +kernel
theorem kitB_lt : kitB "list" "tuple" = some false := by decide +kernel
theorem kitB_tl : kitB "tuple" "list" = some false := by decide +kernel
theorem kitB_ii : kitB "int" "int" = some true := by decide +kernel

theorem atI_cons {α : Type} (xs : List α) (n : Nat) (h : n < xs.length) : atI xs (n : Int) = xs[n]? := by
  rw [atI_lt (by omega) (by omega)]; rfl
theorem e_at1 {α : Type} (x0 x1 : α) (xs : List α) : atI (x0 :: x1 :: xs) 1 = some x1 := atI_cons _ 1 (by simp)
theorem e_at2 {α : Type} (x0 x1 x2 : α) (xs : List α) : atI (x0 :: x1 :: x2 :: xs) 2 = some x2 := atI_cons _ 2 (by simp)
theorem e_at3 {α : Type} (x0 x1 x2 x3 : α) (xs : List α) : atI (x0 :: x1 :: x2 :: x3 :: xs) 3 = some x3 := atI_cons _ 3 (by simp)
theorem e_at4 {α : Type} (x0 x1 x2 x3 x4 : α) (xs : List α) : atI (x0 :: x1 :: x2 :: x3 :: x4 :: xs) 4 = some x4 := atI_cons _ 4 (by simp)
theorem e_at5 {α : Type} (x0 x1 x2 x3 x4 x5 : α) (xs : List α) : atI (x0 :: x1 :: x2 :: x3 :: x4 :: x5 :: xs) 5 = some x5 := atI_cons _ 5 (by simp)
theorem e_at6 {α : Type} (x0 x1 x2 x3 x4 x5 x6 : α) (xs : List α) : atI (x0 :: x1 :: x2 :: x3 :: x4 :: x5 :: x6 :: xs) 6 = some x6 := atI_cons _ 6 (by simp)
theorem e_at7 {α : Type} (x0 x1 x2 x3 x4 x5 x6 x7 : α) (xs : List α) : atI (x0 :: x1 :: x2 :: x3 :: x4 :: x5 :: x6 :: x7 :: xs) 7 = some x7 := atI_cons _ 7 (by simp)
theorem e_at8 {α : Type} (x0 x1 x2 x3 x4 x5 x6 x7 x8 : α) (xs : List α) : atI (x0 :: x1 :: x2 :: x3 :: x4 :: x5 :: x6 :: x7 :: x8 :: xs) 8 = some x8 := atI_cons _ 8 (by simp)
theorem e_at9 {α : Type} (x0 x1 x2 x3 x4 x5 x6 x7 x8 x9 : α) (xs : List α) : atI (x0 :: x1 :: x2 :: x3 :: x4 :: x5 :: x6 :: x7 :: x8 :: x9 :: xs) 9 = some x9 := atI_cons _ 9 (by simp)
theorem e_atm {α : Type} (xs : List α) (x : α) : atI (xs ++ [x]) (-1) = some x := by
  have h : ixN (xs ++ [x]).length (-1) = some xs.length := by
    unfold ixN
    rw [if_neg (by decide), if_pos (by simp; omega)]
    congr 1
    simp
    omega
  unfold atI
  rw [h]
  simp
theorem eqv_bool (a b : Bool) : PyData.eqv (.bool a) (.bool b) = (a == b) := by cases a <;> cases b <;> rfl
theorem eqv_none : PyData.eqv .none .none = true := rfl
theorem tyD_bool (a) : tyD (.bool a) = some "bool" := rfl
theorem tyD_str (a) : tyD (.str a) = some "str" := rfl
theorem tyD_none : tyD .none = some "NoneType" := rfl
theorem kitB_bb : kitB "bool" "bool" = some true := by decide +kernel
theorem kitB_nb : kitB "NoneType" "bool" = some false := by decide +kernel
theorem kitB_bi : kitB "bool" "int" = some true := by decide +kernel
theorem kitB_ib : kitB "int" "bool" = some false := by decide +kernel
theorem kitB_nl : kitB "NoneType" "list" = some false := by decide +kernel
theorem kitB_nt : kitB "NoneType" "tuple" = some false := by decide +kernel
theorem e_andB (a b : Bool) : (if a = true then Rs.ok (RV.d (.bool b)) else Rs.ok (RV.d (.bool false))) = .ok (.d (.bool (a && b))) := by cases a <;> rfl
theorem e_orB (a b : Bool) : (if a = true then Rs.ok (RV.d (.bool true)) else Rs.ok (RV.d (.bool b))) = .ok (.d (.bool (a || b))) := by cases a <;> rfl
theorem e_andR (a b : Bool) : (if a = true then Rs.ok b else Rs.ok false) = .ok (a && b) := by cases a <;> rfl
theorem e_orR (a b : Bool) : (if a = true then Rs.ok true else Rs.ok b) = .ok (a || b) := by cases a <;> rfl

end VL

namespace VL
open PySem PySem.Spec PyProof.Rows L2
/-! ## defs with keyword-only parameters -/
section
variable {ca : CA} {W : WX} {X : Cx} {e : Expr} {es : List Expr} {pos kpos : Pos} {nm : Option Str} {kws : List Keyword}
theorem fnD_ok {P : Program} {w : World} {K : PySem.W.Frag} {mg : Str → Option Value} {base : Heap} {x qual : Str} {sd : Stmt} {dl : List (Str × V)} {fA : Addr} {fd : FuncData} {N ps : List Str} {k : Nat} {body : VEnv → Out} (F : FunD K x qual (defArgs sd) (defBody sd) (defScope sd) [] dl fA fd) (S : FnScope N ps (defScope sd))
    (hb : ∀ (cdv : Value) (A : Around) (outer : List PySem.Env) (s : Shared) (H : Hp) (E : XK), Room k (A.deeper (envOfC qual (defScope sd) s.heap.objs.size fA cdv)) → Takes (cxOf (L2.CX P w) P w K mg base N qual (defScope sd) fA cdv A outer s H E) (fun cls dx _ H' => E cls dx H') →
      PassesOwn (model P w) (A.deeper (envOfC qual (defScope sd) s.heap.objs.size fA cdv)) (envOfC qual (defScope sd) s.heap.objs.size fA cdv) (cxOf (L2.CX P w) P w K mg base N qual (defScope sd) fA cdv A outer s H E).xe →
      VSs ca (fun cls dx _ H' => E cls dx H') (cxOf (L2.CX P w) P w K mg base N qual (defScope sd) fA cdv A outer s H E) (defBody sd) body) : FnOk P w K mg base (L2.CX P w) (k + 1) fA fd ps (spV K ca ps.length (fnD N.length body)) := by
  refine F.ok S (fun vs H Q E h => h.1) (fun cdv A outer s H vs Q E hr h => ?_)
  obtain ⟨hl, G, rs, c, tb, pr, q⟩ := h
  obtain ⟨t, p, sn⟩ := hb cdv A outer s H E hr (takes_of rfl rfl rfl rfl) (passes_of rfl)
  refine ⟨t, p, sn { F := G, H := H } G _ _ H _ (start_ok N c tb pr) ?_⟩
  unfold fnD at q
  generalize hB : body (rs.map some ++ List.replicate (N.length - rs.length) none) = o at q ⊢
  cases o with
  | nx env => exact fun F' σ' H' s st => q F' H' .non st.gr .non
  | rt r => exact fun F' H' v g r => q F' H' v g r
  | rm o d => exact q.elim
  | rp x fs d => exact q.elim
  | ex c fs env => exact fun F' σ' H' cls dx s st x => q F' H' cls dx st.gr x
  | bk env => exact q.elim
  | ct env => exact q.elim
  | no => exact q.elim
theorem paired_app {α β : Type} {R : α → β → Prop} : ∀ {as : List α} {bs : List β} {cs : List α} {ds : List β}, Paired R as bs → Paired R cs ds → Paired R (as ++ cs) (bs ++ ds)
  | _, _, _, _, .nil, h => h
  | _, _, _, _, .cons a b, h => .cons a (paired_app b h)
theorem paired_D {K : PySem.W.Frag} {H0 F H : Hp} : ∀ {vs : List V} {ds : List PyData}, DqA K F vs ds → Paired (fun v r => RVok K H0 F H v r) vs (ds.map RV.d)
  | _, _, .nil => .nil
  | _, _, .cons a b => .cons a (paired_D b)
def KDs (K : PySem.W.Frag) (D : Addr) (l : List (Str × V)) : Prop := ∀ q ∈ l, ∃ u, PySem.W.nsIn K D q.1 = some (some u) ∧ RelV q.2 u
theorem kd_nil {K : PySem.W.Frag} {D : Addr} : KDs K D [] := fun _ h => absurd h (by simp)
theorem kd_cons {K : PySem.W.Frag} {D : Addr} {x : Str} {v : V} {u : Value} {l : List (Str × V)} (h : PySem.W.nsIn K D x = some (some u)) (r : RelV v u) (t : KDs K D l) : KDs K D ((x, v) :: l) := fun q hq => by
  rcases List.mem_cons.mp hq with rfl | hq
  · exact ⟨u, h, r⟩
  · exact t q hq
theorem fund_mk {K : PySem.W.Frag} {x qual : Str} {params : Arguments} {body : List Stmt} {scope : Scope} {f D : Addr} {dl : List (Str × V)} {oc doc pm cdv ct : Value} {od an : Option Addr} {osl : Array (Option Value)}
    (l : K.lookup f = some ⟨oc, od, .func (PySem.W.fnOf x qual params body scope .none (.ref D) doc pm an cdv ct), osl⟩) (c : PySem.W.codeIn K cdv qual = true) (k : PySem.W.keepIn K (.ref f) = true) (h : KDs K D dl) : FunD K x qual params body scope [] dl f (PySem.W.fnOf x qual params body scope .none (.ref D) doc pm an cdv ct) :=
  ⟨⟨_, _, _, _, _, _, _, _, _, _, rfl, l, c, .inl ⟨rfl, rfl⟩, .inr ⟨D, rfl, h⟩⟩, k⟩
/-- what is written for the values that lack: data that stands in K -/
def Still (K : PySem.W.Frag) (dvs : List V) (dds : List PyData) : Prop := ∀ F, DqA K F dvs dds
/-- a call where all keyword-only values lack -/
def DBn (K : PySem.W.Frag) (fd : FuncData) (ps : List Str) (dds : List PyData) : Prop := ∃ dvs, (∃ ds, Vals dvs ds ∧ Binds K fd ps ds) ∧ Still K dvs dds
/-- a call with n positional values and the keywords ks; dds: the data that lacks -/
def KDB (K : PySem.W.Frag) (fd : FuncData) (ps : List Str) (n : Nat) (ks : List Str) (dds : List PyData) : Prop := ∃ mz, (∃ mv, KBn K fd ps n ks (fun us ws => us ++ (ws ++ mv)) (fun vs zs => vs ++ (zs ++ mz))) ∧ Still K mz dds
/-- the values that defaults may be -/
theorem still_nil {K : PySem.W.Frag} : Still K [] [] := fun _ => .nil
theorem still_cons {K : PySem.W.Frag} {v : V} {d : PyData} {vs : List V} {ds : List PyData} (h : ∀ F, Dq K F v d) (t : Still K vs ds) : Still K (v :: vs) (d :: ds) := fun F => .cons (h F) (t F)
theorem still_tup0 {K : PySem.W.Frag} {T : Addr} {n : Nat} {sl : Array (Option Value)} (l : K.lookup T = some ⟨.type "tuple", none, .seq #[] n, sl⟩) (F : Hp) : Dq K F (.ref T) (.tuple []) := .tup ⟨.inr ⟨_, _, _, l, rfl, rfl, Nat.zero_le _, .nil⟩, .inr ⟨_, l, rfl⟩⟩ .nil
/-- f(e, ..) where keyword-only values lack -/
theorem ve_callD {fA : Addr} {fd : FuncData} {ps : List Str} {x : Str} {p : Pos} {k n m : Nat} {dds : List PyData} {G : List RV → Rs RV} {f : VEnv → Rs (List RV)} (Fo : FnOk X.prog X.w X.K X.mg X.base (L2.CX X.prog X.w) k fA fd ps (spV X.K ca n G)) (hr : Room k X.A) (hg : Gl X x) (hm : X.mg x = some (.ref fA)) (hk : PySem.W.keepIn X.K (.ref fA) = true) (hb : DBn X.K fd ps dds) (tk : Takes X W)
    (ha : VA ca W X (e :: es) f) (hn : m + dds.length = n := by rfl) (hdb : (x == ("__debug__" : Str)) = false := by decide) (he : starEach (e :: es) X.env = (false, eval e X.env) :: starEach es X.env := by rfl) (hpl : (backTo pos (starEach es X.env)).any (·.1) = false := by rfl) :
    VE ca W X (.Call (.Name x p) (e :: es) [] pos) (cA (fun rs => if rs.length = m then G (rs.map RV.arg ++ dds.map RV.d) else .no) f) := by
  obtain ⟨t, pa, sa⟩ := ha
  obtain ⟨dvs, ⟨ds, hd, hb⟩, hS⟩ := hb
  refine ⟨_, pe_callSD Fo hr hg hm hk hb hd (fun σ => passAt tk σ) pa hdb he hpl, fun B F env σ H Q st q => ?_⟩
  show t σ H fun vs H1 => spV X.K ca n G (vs ++ dvs) H1 Q (WE W σ)
  refine seqA (PostE X.K ca W σ F H Q) sa st q (fun _ _ h => h) (fun h => h) fun rs F1 H1 vs p1 g1 q1 => ?_
  split at p1
  · rename_i hl
    obtain ⟨F2, g2, s2, q2⟩ := args_go g1 (Same.refl _) q1
    have q3 : Paired (fun v r => RVok X.K H1 F2 H1 v r) (vs ++ dvs) (rs.map RV.arg ++ dds.map RV.d) := paired_app q2 (paired_D (hS F2))
    refine ⟨by rw [Paired.length q3, List.length_append, List.length_map, List.length_map, hl, hn], F2, _, g2.cfg, st.rg.tb.grow g2, q3, ?_⟩
    cases e1 : G (rs.map RV.arg ++ dds.map RV.d) with
    | ok r => rw [e1] at p1; exact fun G' H' v gg rr => p1 G' H' v (g2.trans gg) (rr.older g2.hh)
    | ex c fs => rw [e1] at p1; exact fun G' H' cls dx gg x => p1 G' H' cls dx (g2.trans gg) x
    | no => rw [e1] at p1; exact p1
  · exact p1.elim
/-! ### f(e, .., k = v, ..) -/
/-- the keywords' values -/
def VK1 (ca : CA) (W : WX) (X : Cx) (kws : List Keyword) (f : VEnv → Rs (List RV)) : Prop := ∃ t, PK X kws t ∧ SndA X.K ca W t f
theorem vk_nil : VK1 ca W X [] aN := ⟨_, pk_nil, fun _ _ _ _ _ _ st p => p _ _ _ (Grow.refl st.cfg) .nil⟩
theorem vk_cons {f : VEnv → Rs RV} {g : VEnv → Rs (List RV)} (he : VE ca W X e f) (hr : VK1 ca W X kws g) : VK1 ca W X (⟨nm, e, kpos⟩ :: kws) (aC f g) := by
  obtain ⟨te, pe, se⟩ := he
  obtain ⟨tr, pr, sr⟩ := hr
  refine ⟨_, pk_cons pe pr, fun B F env σ H Q st p => ?_⟩
  show te σ H fun x H1 => tr σ H1 fun xs H2 => Q (x :: xs) H2
  refine seqE (PostA X.K ca W σ F H Q) se st p (fun _ _ h => h) (fun h => h) fun x F1 H1 v1 p1 g1 q1 => ?_
  refine seqA (PostA X.K ca W σ F H Q) sr (st.grow g1) p1 (fun _ _ h => PostX.mono g1 h) (fun h => h) fun xs F2 H2 vs p2 g2 q2 => ?_
  exact p2 F2 H2 (v1 :: vs) (g1.trans g2) (.cons (q1.grow g2) (paired_older g1.hh q2))
def tCallKW (n m : Nat) (sp : Sp) (mz : List V) (W : WX) (t tk : TA) : TE := fun σ H Q => t σ H fun vs H1 => tk σ H1 fun zs H2 => vs.length = n ∧ zs.length = m ∧ sp (vs ++ (zs ++ mz)) H2 Q (WE W σ)
theorem pe_callKW {CX : CXT} {k n : Nat} {f : Addr} {fd : FuncData} {ps ks : List Str} {sp : Sp} {x : Str} {p : Pos} {mv : List Value} {mz : List V} {t tk : TA} (F : FnOk X.prog X.w X.K X.mg X.base CX k f fd ps sp) (hr : Room k X.A) (hg : Gl X x) (hm : X.mg x = some (.ref f)) (hk : PySem.W.keepIn X.K (.ref f) = true)
    (hb : KBn X.K fd ps n ks (fun us ws => us ++ (ws ++ mv)) (fun vs zs => vs ++ (zs ++ mz))) (hx : ∀ σ, PassesAt CX X σ (WE W σ)) (ha : PA X (e :: es) t) (hkw : PK X kws tk) (hall : (backToKw pos (keywordEach kws X.env)).all (·.1.isSome) = true) (hks : (backToKw pos (keywordEach kws X.env)).filterMap (·.1) = ks)
    (hdb : (x == ("__debug__" : Str)) = false) (he : starEach (e :: es) X.env = (false, eval e X.env) :: starEach es X.env)
    (hpl : ((backTo pos (starEach (e :: es) X.env)).any (·.1) || (backToKw pos (keywordEach kws X.env)).any (·.1.isNone)) = false) : PE X (.Call (.Name x p) (e :: es) kws pos) (tCallKW n ks.length sp mz W t tk) := by
  refine ⟨fun pins s σ H Q I h => wpAny_Call_Name_kw (ld_glob I hg hm ?_ hdb)⟩
  refine PySem.W.callWith_KW (h₀ := X.base) I.ok.mod.kin hk hall (thn (ha.run pos pins s σ H _ I h) fun us s1 ⟨vs, H1, I1, r, q⟩ => ?_) hpl he
  refine thn (hkw.run pos pins s1 σ H1 _ I1 q) fun ws s2 ⟨zs, H2, I2, rz, l1, l2, q2⟩ => ⟨I2.kIn, ?_⟩
  rw [hks]
  refine wpAny_call (codeAny_mono (F.run X.A X.stack s2 H2 ⟨us, ks.zip ws⟩ (us ++ (ws ++ mv)) (vs ++ (zs ++ mz)) Q (WE W σ) hr I2.env0 (hb.to s2 us ws I2.kIn (r.length.symm.trans l1) (rz.length.symm.trans l2)) (hb.rel r rz) q2) fun r s' hq => ?_)
  cases r with
  | error ev => exact hx σ pins H2 s2 ev s' I2 hq
  | ok fl =>
    cases fl with
    | ret u => exact I2.after hq
    | next => exact hq.elim
    | brk => exact hq.elim
    | cont => exact hq.elim
/-- positional values, then the keywords', then those that lack -/
def cAK (h : List RV → List RV → Rs RV) (f g : VEnv → Rs (List RV)) : VEnv → Rs RV := fun env => (f env).bind fun rs => (g env).bind fun zs => h rs zs
theorem ve_callK {fA : Addr} {fd : FuncData} {ps ks : List Str} {x : Str} {p : Pos} {k n m : Nat} {dds : List PyData} {G : List RV → Rs RV} {f g : VEnv → Rs (List RV)} (Fo : FnOk X.prog X.w X.K X.mg X.base (L2.CX X.prog X.w) k fA fd ps (spV X.K ca n G)) (hr : Room k X.A) (hg : Gl X x) (hm : X.mg x = some (.ref fA)) (hk : PySem.W.keepIn X.K (.ref fA) = true)
    (hb : KDB X.K fd ps m ks dds) (tk : Takes X W)
    (ha : VA ca W X (e :: es) f) (hkw : VK1 ca W X kws g) (hn : m + (ks.length + dds.length) = n := by rfl) (hall : (backToKw pos (keywordEach kws X.env)).all (·.1.isSome) = true := by rfl) (hks : (backToKw pos (keywordEach kws X.env)).filterMap (·.1) = ks := by rfl)
    (hdb : (x == ("__debug__" : Str)) = false := by decide) (he : starEach (e :: es) X.env = (false, eval e X.env) :: starEach es X.env := by rfl)
    (hpl : ((backTo pos (starEach (e :: es) X.env)).any (·.1) || (backToKw pos (keywordEach kws X.env)).any (·.1.isNone)) = false := by rfl) :
    VE ca W X (.Call (.Name x p) (e :: es) kws pos) (cAK (fun rs zs => if rs.length = m ∧ zs.length = ks.length then G (rs.map RV.arg ++ (zs.map RV.arg ++ dds.map RV.d)) else .no) f g) := by
  obtain ⟨t, pa, sa⟩ := ha
  obtain ⟨t2, pk, sk⟩ := hkw
  obtain ⟨mz, ⟨mv, hb⟩, hS⟩ := hb
  refine ⟨_, pe_callKW Fo hr hg hm hk hb (fun σ => passAt tk σ) pa pk hall hks hdb he hpl, fun B F env σ H Q st q => ?_⟩
  show t σ H fun vs H1 => t2 σ H1 fun zs H2 => vs.length = m ∧ zs.length = ks.length ∧ spV X.K ca n G (vs ++ (zs ++ mz)) H2 Q (WE W σ)
  refine seqA (PostE X.K ca W σ F H Q) sa st q (fun _ _ h => h) (fun h => h) fun rs F1 H1 vs p1 g1 q1 => ?_
  refine seqA (PostE X.K ca W σ F H Q) sk (st.grow g1) p1 (fun _ _ h => PostX.mono g1 h) (fun h => h) fun zs F2 H2 ws p2 g2 q2 => ?_
  simp only at p2
  split at p2
  · rename_i hl
    have q1' : Paired (fun v r => RVok X.K H F2 H2 v r) vs rs := paired_grow g2 (paired_older (SameN.refl _) q1)
    have q2' : Paired (fun v r => RVok X.K H F2 H2 v r) ws zs := paired_older g1.hh q2
    obtain ⟨F3, g3, s3, q3⟩ := args_go (g1.trans g2) (Same.refl _) (paired_app q1' q2')
    rw [List.map_append] at q3
    have q4 : Paired (fun v r => RVok X.K H2 F3 H2 v r) (vs ++ (ws ++ mz)) (rs.map RV.arg ++ (zs.map RV.arg ++ dds.map RV.d)) := by
      rw [← List.append_assoc, ← List.append_assoc]
      exact paired_app q3 (paired_D (hS F3))
    have l1 : vs.length = m := by rw [Paired.length q1, hl.1]
    have l2 : ws.length = ks.length := by rw [Paired.length q2, hl.2]
    refine ⟨l1, l2, by rw [Paired.length q4, List.length_append, List.length_append, List.length_map, List.length_map, List.length_map, hl.1, hl.2, hn], F3, _, g3.cfg, st.rg.tb.grow g3, q4, ?_⟩
    cases e1 : G (rs.map RV.arg ++ (zs.map RV.arg ++ dds.map RV.d)) with
    | ok r => rw [e1] at p2; exact fun G' H' v gg rr => p2 G' H' v (g3.trans gg) (rr.older g3.hh)
    | ex c fs => rw [e1] at p2; exact fun G' H' cls dx gg x => p2 G' H' cls dx (g3.trans gg) x
    | no => rw [e1] at p2; exact p2
  · exact p2.elim
@[simp] theorem e_cAK (h) (f g : VEnv → Rs (List RV)) (env : VEnv) : cAK h f g env = (f env).bind fun rs => (g env).bind fun zs => h rs zs := rfl
end
end VL

namespace VL
open PySem PySem.Spec PyProof.Rows L2

/-! ## dicts whose keys are tuples of ints: the machine's side -/
abbrev tk (P : Program) (w : World) : HeapKind P w (List Int) := tupleKind (intKind P w)
section
variable {X : Cx} {pins : List (Addr × Obj)} {σ : L2.St} {H : Hp} {s : Shared} {a b p d : Addr} {ks : List Int} {xs : List (List Int × Addr × Value)} {n : Nat} {A : Around} {E : Value → Shared → Prop}
theorem items_ints {P : Program} {w : World} : ∀ {ks : List Int} {us : List Value}, Vals (ks.map V.int) us → ItemsAre (intKind P w) ks us
  | [], _, r => by rw [List.map_nil] at r; cases r; exact .nil
  | k :: ks, _, r => by
    rw [List.map_cons] at r
    cases r with
    | cons h t => obtain ⟨t1, rfl⟩ := h; exact .cons (by show Value.isInt k (.int k t1) = true; simp [Value.isInt]) (items_ints t)
theorem key_is (I : Inv X pins σ H s) (h : SqT X.K H b (ks.map V.int)) : (tk X.prog X.w).is s.heap ks b := by
  obtain ⟨its, r, ⟨o, ho, hc, n, hd⟩, _⟩ := I.tuple h
  exact ⟨o, its.toArray, n, ho, hc, hd, by simpa using items_ints r⟩
/-- all keys stand -/
def KeysIn (K : PySem.W.Frag) (H : Hp) (xs : List (List Int × Addr × Value)) : Prop := ∀ x ∈ xs, SqT K H x.2.1 (x.1.map V.int)
theorem dto_ok (I : Inv X pins σ H s) (e : H p = some (DTO p (n, xs))) (k : KeysIn X.K H xs) : s.heap.DictOfH (tk X.prog X.w) p xs ∧ xs.length ≤ sizeLine ∧ (p == sysModules) = false := by
  obtain ⟨⟨o, es, h1, h2, h3, h4, h5, h6, h7⟩, _⟩ := (show ObjOk X.prog X.w H s.heap p (.ext (DTOk p (n, xs))) from I.hok p _ e)
  exact ⟨⟨o, es, n, h1, h2, h3, h4, fun x hx => key_is I (k x hx), h5⟩, h6, h7⟩
theorem dto_new {P : Program} {w : World} {h : Heap} (dd : h.DictOfH (tk P w) p xs) (z : xs.length ≤ sizeLine) (hd : (p == sysModules) = false) : ∃ n, ∀ H, ObjOk P w H h p (DTO p (n, xs)) := by
  obtain ⟨o, es, ep, h1, h2, h3, h4, _, h5⟩ := dd
  refine ⟨ep, fun H => ⟨⟨o, es, h1, h2, h3, h4, h5, z, hd⟩, ⟨o, h1⟩, fun k1 k2 q k => ?_⟩⟩
  obtain ⟨o, es, h1, r⟩ := q
  exact ⟨o, es, k _ h1, r⟩
theorem storedH_len (xs : List (List Int × Addr × Value)) (k : List Int) (a : Addr) (v : Value) : (storedH xs k a v).length ≤ xs.length + 1 := by
  unfold storedH
  split <;> simp
/-- d[k] -/
abbrev rIxDT (K : PySem.W.Frag) : R2 := fun x y H Q => ∃ p b n xs ks q v, x = .ref p ∧ y = .ref b ∧ H p = some (DTO p (n, xs)) ∧ KeysIn K H xs ∧ SqT K H b (ks.map V.int) ∧ atKey xs ks = some q ∧ RelV v q.2 ∧ Q v H
theorem ix_dt (hu : X.A.units + 1 < cLine) : IxR X (rIxDT X.K) := by
  intro value slice pins s σ H x y v u Q I rx ry h hs
  obtain ⟨p, b, n, xs, ks, q, z, rfl, rfl, e, kk, hk, hq, rz, fin⟩ := h
  cases rx; cases ry
  obtain ⟨dd, z1, z2⟩ := dto_ok I e kk
  unfold subscriptTail
  refine wpAny_bind ?_
  rw [getitemInPython_of_ne dd.typeIs.not_modules]
  refine wpAny_bind (wpAny_specialOf dd.typeIs PySem.F.slot_dict_getitem.lookup ?_)
  have fin : wpAny (model X.prog X.w) X.A (subscripted slice false (.ref p) (.ref b)) (fun r s₃ => wpAny (model X.prog X.w) X.A (letTemporaryGo value (.ref p) r >>= fun _ => pure r) (EP X pins σ Q) X.xe s₃) X.xe s := by
    rw [hs]
    exact wpAny_operating (wpAny_getItem_heap (tupleKind_room_in1 hu) (key_is I hk) dd hq (wpAny_bind (wpAny_letTemporaryGo (wpAny_pure ⟨z, H, I.tok _, rz, fin⟩))))
  first
    | exact wpAny_pure (wpAny_bind fin)
    | exact wpAny_bind (wpAny_pure (wpAny_bind fin))
    | exact wpAny_bind fin
/-- d[k], keys ints and texts -/
abbrev rIxDK : R2 := fun x y H Q => ∃ a v, x = .ref a ∧ DGet H a y (some v) ∧ Q v H
theorem ix_dk (hu : X.A.units + 1 < cLine) : IxR X rIxDK := by
  intro value slice pins s σ H x y v u Q I rx ry h hs
  obtain ⟨p, z, rfl, g, fin⟩ := h
  cases rx
  have dd := dict_typeIs I g
  unfold subscriptTail
  refine wpAny_bind ?_
  rw [getitemInPython_of_ne dd.not_modules]
  refine wpAny_bind (wpAny_specialOf dd PySem.F.slot_dict_getitem.lookup ?_)
  have fin : wpAny (model X.prog X.w) X.A (subscripted slice false (.ref p) u) (fun r s₃ => wpAny (model X.prog X.w) X.A (letTemporaryGo value (.ref p) r >>= fun _ => pure r) (EP X pins σ Q) X.xe s₃) X.xe s := by
    rw [hs]
    exact wpAny_operating (d_getItem hu I g ry fun w' s3 I3 rw' => wpAny_bind (wpAny_letTemporaryGo (wpAny_pure ⟨z, H, I3, rw', fin⟩)))
  first
    | exact wpAny_pure (wpAny_bind fin)
    | exact wpAny_bind (wpAny_pure (wpAny_bind fin))
    | exact wpAny_bind fin
/-- k in d -/
abbrev rInDT (K : PySem.W.Frag) : R2 := fun x y H Q => ∃ p b n xs ks, x = .ref b ∧ y = .ref p ∧ H p = some (DTO p (n, xs)) ∧ KeysIn K H xs ∧ SqT K H b (ks.map V.int) ∧ Q (.bl (atKey xs ks).isSome) H
abbrev rNotInDT (K : PySem.W.Frag) : R2 := fun x y H Q => ∃ p b n xs ks, x = .ref b ∧ y = .ref p ∧ H p = some (DTO p (n, xs)) ∧ KeysIn K H xs ∧ SqT K H b (ks.map V.int) ∧ Q (.bl (!(atKey xs ks).isSome)) H
abbrev rInDK : R2 := fun y x H Q => ∃ a o, x = .ref a ∧ DGet H a y o ∧ Q (.bl o.isSome) H
abbrev rNotInDK : R2 := fun y x H Q => ∃ a o, x = .ref a ∧ DGet H a y o ∧ Q (.bl (!o.isSome)) H
theorem op_inDT (hu : X.A.units + 1 < cLine) : OpR X (compareOp .In) (rInDT X.K) := by
  intro pins s σ H x y v u Q I rx ry h
  obtain ⟨p, b, n, xs, ks, rfl, rfl, e, kk, hk, fin⟩ := h
  cases rx; cases ry
  obtain ⟨dd, z1, z2⟩ := dto_ok I e kk
  exact wpAny_in_heap (tupleKind_room_in1 hu) (key_is I hk) z2 dd ⟨.bl _, H, I.tok _, rfl, fin⟩
theorem op_notInDT (hu : X.A.units + 1 < cLine) : OpR X (compareOp .NotIn) (rNotInDT X.K) := by
  intro pins s σ H x y v u Q I rx ry h
  obtain ⟨p, b, n, xs, ks, rfl, rfl, e, kk, hk, fin⟩ := h
  cases rx; cases ry
  obtain ⟨dd, z1, z2⟩ := dto_ok I e kk
  exact wpAny_notIn_heap (tupleKind_room_in1 hu) (key_is I hk) z2 dd ⟨.bl _, H, I.tok _, rfl, fin⟩
theorem op_inDK (hu : X.A.units + 1 < cLine) : OpR X (compareOp .In) rInDK := by
  intro pins s σ H x y v u Q I rx ry h
  obtain ⟨a, o, rfl, g, fin⟩ := h
  cases ry
  exact d_in hu I g rx fun s' I' => ⟨.bl _, H, I', rfl, fin⟩
theorem op_notInDK (hu : X.A.units + 1 < cLine) : OpR X (compareOp .NotIn) rNotInDK := by
  intro pins s σ H x y v u Q I rx ry h
  obtain ⟨a, o, rfl, g, fin⟩ := h
  cases ry
  exact d_notIn hu I g rx fun s' I' => ⟨.bl _, H, I', rfl, fin⟩
/-- d[k] = v -/
def rSetDT (K : PySem.W.Frag) : V → V → V → Hp → (Hp → Prop) → Prop := fun o i v H Q => ∃ p b n xs ks, o = .ref p ∧ i = .ref b ∧ H p = some (DTO p (n, xs)) ∧ KeysIn K H xs ∧ SqT K H b (ks.map V.int) ∧ xs.length < sizeLine ∧ ∀ u n', RelV v u → Q (upd H p (DTO p (n', storedH xs ks b u)))
theorem set_dt (hu : X.A.units + 1 < cLine) : PSet X (rSetDT X.K) := by
  intro pins s σ H o i v ov iv u Q I ro ri rv h
  obtain ⟨p, b, n, xs, ks, rfl, rfl, e, kk, hk, hl, fin⟩ := h
  cases ro; cases ri
  obtain ⟨dd, z1, z2⟩ := dto_ok I e kk
  refine wpAny_setItem_heap (hsz := z1) (tupleKind_room_in1 hu) (key_is I hk) dd fun h' dd' hs => ?_
  have he : ∃ q, h'.get? p = some q := let ⟨q, _, _, hq, _⟩ := dd'; ⟨q, hq⟩
  obtain ⟨n', mk⟩ := dto_new dd' (Nat.le_trans (storedH_len xs ks b u) hl) z2
  exact ⟨_, d_write I (by rw [e]; exact True.intro) hs he (mk _), fin u n' rv⟩
def rSetDK : V → V → V → Hp → (Hp → Prop) → Prop := fun o i v H Q => ∃ p kvs k, o = .ref p ∧ i = kV k ∧ H p = some (.dK kvs) ∧ kvs.length < sizeLine ∧ Q (upd H p (.dK (putK kvs k v)))
theorem set_dk (hu : X.A.units + 1 < cLine) : PSet X rSetDK := by
  intro pins s σ H o i v ov iv u Q I ro ri rv h
  obtain ⟨p, kvs, k, rfl, rfl, e, hl, fin⟩ := h
  cases ro
  exact d_setItem hu I (DPut.k e hl) ri rv fun s' I' => ⟨_, I', fin⟩
def rOrS (r r' : V → V → V → Hp → (Hp → Prop) → Prop) : V → V → V → Hp → (Hp → Prop) → Prop := fun o i v H Q => r o i v H Q ∨ r' o i v H Q
theorem set_or {r r' : V → V → V → Hp → (Hp → Prop) → Prop} (h : PSet X r) (h' : PSet X r') : PSet X (rOrS r r') := by
  intro pins s σ H o i v ov iv u Q I ro ri rv q
  rcases q with q | q
  · exact h pins s σ H o i v ov iv u Q I ro ri rv q
  · exact h' pins s σ H o i v ov iv u Q I ro ri rv q
/-- d.get(k), d.get(k, x) -/
theorem dto_isD (I : Inv X pins σ H s) (e : H a = some (DTO a (n, xs))) (k : KeysIn X.K H xs) :
    s.TypeIs (.ref a) "dict" ∧ (∀ b, Value.ref a = .ref b → ∃ ob, s.heap.get? b = some ob ∧ ob.dict = none) ∧ (a == sysModules) = false := by
  obtain ⟨dd, z1, z2⟩ := dto_ok I e k
  refine ⟨dd.typeIs, fun b q => ?_, z2⟩
  cases q
  obtain ⟨ob, _, _, h1, h2, _⟩ := dd
  exact ⟨ob, h1, h2.2.1⟩
def tGet1 (td ty : TE) (K : PySem.W.Frag) : TE := fun σ H Q => td σ H fun x H1 => ∃ a, x = .ref a ∧ ((IsD H1 a ∧ ty σ H1 fun y H2 => ∃ o, DGet H2 a y o ∧ Q (o.getD .non) H2) ∨
  ∃ n xs, H1 a = some (DTO a (n, xs)) ∧ KeysIn K H1 xs ∧ ty σ H1 fun y H2 => ∃ b ks z, y = .ref b ∧ H2 a = some (DTO a (n, xs)) ∧ KeysIn K H2 xs ∧ SqT K H2 b (ks.map V.int) ∧ RelV z (((atKey xs ks).map (·.2)).getD .none) ∧ Q z H2)
def tGet2 (td ty tx : TE) (K : PySem.W.Frag) : TE := fun σ H Q => td σ H fun x H1 => ∃ a, x = .ref a ∧ ((IsD H1 a ∧ ty σ H1 fun y H2 => tx σ H2 fun z H3 => ∃ o, DGet H3 a y o ∧ Q (o.getD z) H3) ∨
  ∃ n xs, H1 a = some (DTO a (n, xs)) ∧ KeysIn K H1 xs ∧ ty σ H1 fun y H2 => tx σ H2 fun d H3 => ∃ b ks z, y = .ref b ∧ H3 a = some (DTO a (n, xs)) ∧ KeysIn K H3 xs ∧ SqT K H3 b (ks.map V.int) ∧ (∀ u, RelV d u → RelV z (((atKey xs ks).map (·.2)).getD u)) ∧ Q z H3)
end
section
variable {X : Cx} {o e f : Expr} {apos cpos : Pos} {td ty tx : TE}
theorem pe_get1 (hu : X.A.units + 1 < cLine) (ho : PE X o td) (he : PE X e ty) (m : M1 X o "get" apos e cpos) : PE X (.Call (.Attribute o "get" apos) [e] [] cpos) (tGet1 td ty X.K) := by
  refine ⟨fun pins s σ H Q I h => ?_⟩
  refine wpAny_Call_method m.base m.few m.line PySem.F.plainAttrs_dict PySem.F.slot_dict_get PySem.F.type_dict_get (thn (ho.run pins s σ H _ I h) fun u s1 ⟨x, H1, I1, rx, a, ex, q1⟩ => ?_)
  subst ex
  obtain rfl : u = Value.ref a := rx
  rw [m.trees]
  rcases q1 with ⟨d, q1⟩ | ⟨n, xs, e1, k1, q1⟩
  · obtain ⟨t1, t2, _⟩ := isD_at I1 d
    refine ⟨t1, t2, ?_⟩
    refine Calls.callWith_builtin rfl (Calls.evalArgs_plain (Calls.spliced_cons (thn (he.run pins s1 σ H1 _ I1 q1) fun iv s2 ⟨y, H2, I2, ry, ov, g, q2⟩ => Calls.spliced_nil ?_)))
    exact d_get1 hu I2 g ry fun w' s3 I3 rw' => ⟨_, H2, I3, rw', q2⟩
  · obtain ⟨t1, t2, _⟩ := dto_isD I1 e1 k1
    refine ⟨t1, t2, ?_⟩
    refine Calls.callWith_builtin rfl (Calls.evalArgs_plain (Calls.spliced_cons (thn (he.run pins s1 σ H1 _ I1 q1) fun iv s2 ⟨y, H2, I2, ry, b, ks, z, ey, e2, k2, hk, rz, q2⟩ => Calls.spliced_nil ?_)))
    subst ey
    cases (show iv = Value.ref b from ry)
    obtain ⟨dd, z1, z2⟩ := dto_ok I2 e2 k2
    exact call_meetsIn PySem.F.slot_dict_get dd.typeIs PySem.F.entry_dict_get (PySem.F.args_dict_get_2 _ _) (meetsH_dict_get (tk X.prog X.w) a b z2) ⟨tupleKind_room_in1 hu, ks, xs, key_is I2 hk, dd, ⟨z, H2, I2.tok _, rz, q2⟩⟩
theorem pe_get2 (hu : X.A.units + 1 < cLine) (ho : PE X o td) (he : PE X e ty) (hf : PE X f tx) (m : M2 X o "get" apos e f cpos) : PE X (.Call (.Attribute o "get" apos) [e, f] [] cpos) (tGet2 td ty tx X.K) := by
  refine ⟨fun pins s σ H Q I h => ?_⟩
  refine wpAny_Call_method m.base m.few m.line PySem.F.plainAttrs_dict PySem.F.slot_dict_get PySem.F.type_dict_get (thn (ho.run pins s σ H _ I h) fun u s1 ⟨x, H1, I1, rx, a, ex, q1⟩ => ?_)
  subst ex
  obtain rfl : u = Value.ref a := rx
  rw [m.trees]
  rcases q1 with ⟨d, q1⟩ | ⟨n, xs, e1, k1, q1⟩
  · obtain ⟨t1, t2, _⟩ := isD_at I1 d
    refine ⟨t1, t2, ?_⟩
    refine Calls.callWith_builtin rfl (Calls.evalArgs_plain (Calls.spliced_cons (thn (he.run pins s1 σ H1 _ I1 q1) fun iv s2 ⟨y, H2, I2, ry, q2⟩ =>
      Calls.spliced_cons (thn (hf.run pins s2 σ H2 _ I2 q2) fun fv s3 ⟨z, H3, I3, rz, ov, g, q3⟩ => Calls.spliced_nil ?_))))
    exact d_get2 hu I3 g ry rz fun w' s4 I4 rw' => ⟨_, H3, I4, rw', q3⟩
  · obtain ⟨t1, t2, _⟩ := dto_isD I1 e1 k1
    refine ⟨t1, t2, ?_⟩
    refine Calls.callWith_builtin rfl (Calls.evalArgs_plain (Calls.spliced_cons (thn (he.run pins s1 σ H1 _ I1 q1) fun iv s2 ⟨y, H2, I2, ry, q2⟩ =>
      Calls.spliced_cons (thn (hf.run pins s2 σ H2 _ I2 q2) fun fv s3 ⟨d, H3, I3, rd, b, ks, z, ey, e3, k3, hk, rz, q3⟩ => Calls.spliced_nil ?_))))
    subst ey
    cases (show iv = Value.ref b from ry)
    obtain ⟨dd, z1, z2⟩ := dto_ok I3 e3 k3
    exact call_meetsIn PySem.F.slot_dict_get dd.typeIs PySem.F.entry_dict_get (PySem.F.args_dict_get_3 _ _ _) (meetsH_dict_get_default (tk X.prog X.w) a b z2 fv) ⟨tupleKind_room_in1 hu, ks, xs, key_is I3 hk, dd, ⟨z, H3, I3.tok _, rz fv rd, q3⟩⟩
end
/-! displays -/
section
variable {X : Cx} {pos : Pos}
theorem dto_empty {P : Program} {w : World} {H : Hp} (h : Heap) (hb : sysModules < h.objs.size) : ObjOk P w H (h.push { cls := .type "dict", data := .dict #[] }) h.objs.size (DTO h.objs.size (0, [])) :=
  ⟨⟨_, #[], Heap.get?_push_size _ rfl, ⟨rfl, rfl, rfl⟩, rfl, rfl, List.nodup_nil, Nat.zero_le _, beq_eq_false_iff_ne.mpr (Ne.symm (Nat.ne_of_lt hb))⟩, ⟨_, Heap.get?_push_size _ rfl⟩, fun k1 k2 ⟨o, es, h1, r⟩ k => ⟨o, es, k _ h1, r⟩⟩
def tDNewO : TE := fun _ H Q => ∀ p, H p = none → Q (.ref p) (upd H p (DTO p (0, [])))
theorem pe_dnewO : PE X (.Dict [] [] pos) tDNewO := ⟨fun pins s σ H Q I h =>
  wpAny_Dict_empty ⟨.ref s.heap.objs.size, _, I.laid (a := s.heap.objs.size) (o := DTO s.heap.objs.size (0, [])) (t' := s.toks) (fun _ _ q => Heap.get?_push_of_some _ q) (Nat.le_refl _) (dto_empty s.heap I.big), rfl, h _ (I.hok.fresh (Nat.le_refl _))⟩⟩
/-- {k: v}, k a tuple of ints -/
def tDisp1 (K : PySem.W.Frag) (t1 t2 : TE) : TE := fun σ H Q => ∀ p, H p = none → t1 σ (upd H p (DTO p (0, []))) fun x H1 => t2 σ H1 fun y H2 => H2 p = some (DTO p (0, [])) ∧ ∃ b ks, x = .ref b ∧ SqT K H2 b (ks.map V.int) ∧ ∀ u n, RelV y u → Q (.ref p) (upd H2 p (DTO p (n, [(ks, b, u)])))
theorem pe_disp1 {k v : Expr} {t1 t2 : TE} (hu : X.A.units + 1 < cLine) (hk : PE X k t1) (hv : PE X v t2) : PE X (.Dict [some k] [v] pos) (tDisp1 X.K t1 t2) := by
  refine ⟨fun pins s σ H Q I q => ?_⟩
  have hn := I.hok.fresh (Nat.le_refl s.heap.objs.size)
  have I1 := I.laid (a := s.heap.objs.size) (o := DTO s.heap.objs.size (0, [])) (h' := s.heap.push { cls := .type "dict", data := .dict #[] }) (t' := s.toks) (fun _ _ q => Heap.get?_push_of_some _ q) (Nat.le_refl _) (dto_empty s.heap I.big)
  rw [arm_eval_Dict, zip_pairTrees [some k] [v] X.env pos rfl rfl, dictDisplay_pairs (pairTrees [some k] [v] X.env pos) (by simp [pairTrees]) (by simp [pairTrees])]
  refine wpAny_bind (wpAny_standAt (wpAny_bind (wpAny_subDictH (knd := tk X.prog X.w) (Q := fun d s' => wpAny (model X.prog X.w) X.A (pure (Value.ref d)) (EP X pins σ Q) X.xe s') (show X.A.units < cLine by omega) (by simp [pairTrees]) ?_)))
  refine pairTrees_cons_walk (thn (hk.run pins _ σ _ _ I1 (q _ hn)) fun kv s1 ⟨x, H1, I1, rx, q1⟩ => thn (hv.run pins s1 σ H1 _ I1 q1) fun vv s2 ⟨y, H2, I2, ry, e, b, ks, ex, hb, q2⟩ => pairTrees_nil_walk ?_)
  subst ex
  cases (show kv = Value.ref b from rx)
  obtain ⟨dd, z1, z2⟩ := dto_ok I2 e (fun x hx => absurd hx (by simp))
  refine ⟨[(ks, b, vv)], ⟨rfl, rfl, key_is I2 hb, True.intro⟩, dd, fun h' tk' dd' hs => ?_⟩
  have he : ∃ q, h'.get? s.heap.objs.size = some q := let ⟨q, _, _, hq, _⟩ := dd'; ⟨q, hq⟩
  obtain ⟨n', mk⟩ := dto_new dd' (by rw [sizeLine_eq]; show 1 ≤ 16777216; decide) z2
  exact wpAny_pure ⟨.ref _, _, d_write I2 (by rw [e]; exact True.intro) hs he (mk _), rfl, q2 vv n' ry⟩
end
end VL

namespace VL
open PySem PySem.Spec PyProof.Rows L2

/-! ## dicts as values -/
section
variable {κ : Type} [DecidableEq κ]
def dGet (kvs : List (κ × PyData)) (k : κ) : Option PyData := (kvs.find? fun p => decide (p.1 = k)).map (·.2)
def dPut (kvs : List (κ × PyData)) (k : κ) (d : PyData) : List (κ × PyData) :=
  if (kvs.any fun p => decide (p.1 = k)) = true then kvs.map (fun p => if p.1 = k then (p.1, d) else p) else kvs ++ [(k, d)]
def dDrop (kvs : List (κ × PyData)) (k : κ) : List (κ × PyData) := kvs.filter fun p => decide (p.1 ≠ k)
@[simp] theorem dGet_nil (k : κ) : dGet [] k = none := rfl
theorem dGet_cons (p : κ × PyData) (kvs : List (κ × PyData)) (k : κ) : dGet (p :: kvs) k = if p.1 = k then some p.2 else dGet kvs k := by
  unfold dGet
  by_cases h : p.1 = k <;> simp [List.find?_cons, h]
theorem dGet_any (kvs : List (κ × PyData)) (k : κ) : (kvs.any fun p => decide (p.1 = k)) = (dGet kvs k).isSome := by
  induction kvs with
  | nil => rfl
  | cons p kvs ih =>
    rw [List.any_cons, dGet_cons, ih]
    by_cases h : p.1 = k <;> simp [h]
theorem dGet_put (kvs : List (κ × PyData)) (k j : κ) (d : PyData) : dGet (dPut kvs k d) j = if j = k then some d else dGet kvs j := by
  unfold dPut
  by_cases a : (kvs.any fun p => decide (p.1 = k)) = true
  · rw [if_pos a]
    induction kvs with
    | nil => simp at a
    | cons p kvs ih =>
      rw [List.map_cons, dGet_cons, dGet_cons]
      by_cases h : p.1 = k
      · simp only [h, if_true]
        by_cases hj : k = j
        · simp [hj]
        · rw [if_neg hj, if_neg hj, if_neg (fun z => hj z.symm)]
          by_cases b : (kvs.any fun p => decide (p.1 = k)) = true
          · rw [ih b, if_neg (fun z => hj z.symm)]
          · congr 1
            have : kvs.map (fun p => if p.1 = k then (p.1, d) else p) = kvs.map id := by
              apply List.map_congr_left
              intro q hq
              have : ¬ q.1 = k := fun z => b (List.any_eq_true.mpr ⟨q, hq, by simp [z]⟩)
              simp [this]
            have h2 := this
            simp only [List.map_id] at h2
            exact h2
      · have b : (kvs.any fun p => decide (p.1 = k)) = true := by
          rw [List.any_cons] at a; simpa [h] using a
        simp only [h, if_false]
        rw [ih b]
        by_cases hj : p.1 = j
        · have : ¬ j = k := fun z => h (hj.trans z)
          simp [hj, this]
        · simp [hj]
  · rw [if_neg a]
    have n : dGet kvs k = none := by
      rw [dGet_any] at a
      cases e : dGet kvs k with
      | none => rfl
      | some x => rw [e] at a; simp at a
    clear a
    induction kvs with
    | nil => rw [List.nil_append, dGet_cons]; by_cases h : k = j <;> simp [h, eq_comm]
    | cons p kvs ih =>
      rw [List.cons_append, dGet_cons, dGet_cons]
      rw [dGet_cons] at n
      by_cases h : p.1 = k
      · simp [h] at n
      · rw [if_neg h] at n
        rw [ih n]
        by_cases hj : p.1 = j
        · have : ¬ j = k := fun z => h (hj.trans z)
          simp [hj, this]
        · simp [hj]
theorem dPut_new {kvs : List (κ × PyData)} {k : κ} (d : PyData) (h : dGet kvs k = none) : dPut kvs k d = kvs ++ [(k, d)] := by
  unfold dPut
  rw [dGet_any, h]
  rfl
theorem dPut_keys_old {kvs : List (κ × PyData)} {k : κ} (d : PyData) (h : (dGet kvs k).isSome = true) : (dPut kvs k d).map (·.1) = kvs.map (·.1) := by
  unfold dPut
  rw [dGet_any, if_pos h, List.map_map]
  apply List.map_congr_left
  intro p _
  by_cases e : p.1 = k <;> simp [e]
theorem dGet_drop (kvs : List (κ × PyData)) (k j : κ) : dGet (dDrop kvs k) j = if j = k then none else dGet kvs j := by
  unfold dDrop
  induction kvs with
  | nil => simp
  | cons p kvs ih =>
    rw [List.filter_cons, dGet_cons]
    by_cases h : p.1 = k
    · simp only [h, ne_eq, not_true, decide_false, Bool.false_eq_true, if_false]
      rw [ih]
      by_cases hj : k = j
      · simp [hj]
      · have : ¬ j = k := fun z => hj z.symm
        simp [hj, this]
    · simp only [h, ne_eq, not_false_eq_true, decide_true, if_true]
      rw [dGet_cons, ih]
      by_cases hj : p.1 = j
      · have : ¬ j = k := fun z => h (hj.trans z)
        simp [hj, this]
      · simp [hj]
end
def keyD : PyData → Option Key
  | .int i => some (.inl i)
  | .str x => some (.inr x)
  | _ => none
def keyTD : PyData → Option (List Int)
  | .tuple xs => intsD xs
  | _ => none
section
variable {K : PySem.W.Frag} {ca : CA} {H0 F H : Hp} {v : V} {r : RV}
theorem keyD_ok {x : PyData} {k : Key} (h : Dq K F v x) (e : keyD x = some k) : v = kV k := by
  cases x with
  | int i => cases h; cases e; rfl
  | str i => cases h; cases e; rfl
  | _ => cases e
theorem keyTD_ok {x : PyData} {k : List Int} (h : Dq K F v x) (e : keyTD x = some k) : ∃ b, v = .ref b ∧ SqN K F b (k.map V.int) := by
  cases x with
  | tuple xs =>
    cases h with
    | tup h1 h2 =>
      have := ints_ok h2 e
      subst this
      exact ⟨_, rfl, h1⟩
  | _ => cases e
theorem KTl.keys {xs : List (List Int × Addr × Value)} {kvs : List (List Int × PyData)} (h : KTl K F xs kvs) (s : Same F H) : KeysIn K H xs := by
  induction h with
  | nil => intro x hx; simp at hx
  | cons h1 _ ih =>
    intro x hx
    rcases List.mem_cons.mp hx with rfl | hx
    · exact same_seqT s h1.2.1.1
    · exact ih x hx
theorem KTl.len {xs : List (List Int × Addr × Value)} {kvs : List (List Int × PyData)} (h : KTl K F xs kvs) : xs.length = kvs.length := Paired.length h
theorem atKey_cons (p : List Int × Addr × Value) (xs : List (List Int × Addr × Value)) (k : List Int) : atKey (p :: xs) k = if p.1 = k then some p.2 else atKey xs k := by
  unfold atKey
  by_cases h : p.1 = k <;> simp [List.find?_cons, h]
/-- what stands at a key, on both sides -/
theorem KTl.at {xs : List (List Int × Addr × Value)} {kvs : List (List Int × PyData)} (h : KTl K F xs kvs) (k : List Int) : (atKey xs k = none ∧ dGet kvs k = none) ∨ ∃ q d v, atKey xs k = some q ∧ dGet kvs k = some d ∧ RelV v q.2 ∧ Dq K F v d := by
  induction h with
  | nil => exact .inl ⟨rfl, rfl⟩
  | @cons p q ps qs h1 h2 ih =>
    rw [atKey_cons, dGet_cons, ← h1.1]
    by_cases e : p.1 = k
    · rw [if_pos e, if_pos e]
      obtain ⟨v, r1, r2⟩ := h1.2.2
      exact .inr ⟨_, _, v, rfl, rfl, r1, r2⟩
    · rw [if_neg e, if_neg e]; exact ih
theorem KTl.repl {xs : List (List Int × Addr × Value)} {kvs : List (List Int × PyData)} (h : KTl K F xs kvs) (k : List Int) {u : Value} {w : V} {d : PyData} (r : RelV w u) (dq : Dq K F w d) : KTl K F (xs.map (putAt k u)) (kvs.map fun p => if p.1 = k then (p.1, d) else p) := by
  induction h with
  | nil => exact .nil
  | @cons p q ps qs h1 h2 ih =>
    rw [List.map_cons, List.map_cons]
    refine .cons ?_ ih
    unfold putAt
    by_cases e : p.1 = k
    · rw [if_pos e, if_pos (h1.1.symm.trans e)]; exact ⟨h1.1, h1.2.1, w, r, dq⟩
    · rw [if_neg e, if_neg (fun z => e (h1.1.trans z))]; exact h1
theorem KTl.put {xs : List (List Int × Addr × Value)} {kvs : List (List Int × PyData)} (h : KTl K F xs kvs) (k : List Int) {b : Addr} {u : Value} {w : V} {d : PyData} (hb : SqN K F b (k.map V.int)) (r : RelV w u) (q : Dq K F w d) : KTl K F (storedH xs k b u) (dPut kvs k d) := by
  have e : (kvs.any fun p => decide (p.1 = k)) = (atKey xs k).isSome := by
    rw [dGet_any]
    rcases h.at k with ⟨a, b⟩ | ⟨q, d, v, a, b, _⟩ <;> rw [a, b] <;> rfl
  unfold storedH dPut
  rw [e]
  by_cases c : (atKey xs k).isSome = true
  · rw [if_pos c, if_pos c]; exact h.repl k r q
  · rw [if_neg c, if_neg c]; exact Paired.snoc h ⟨rfl, hb, w, r, q⟩
/-- keys ints and texts -/
theorem KD.at {xs : List (Key × V)} {kvs : List (Key × PyData)} (h : KD K F xs kvs) (k : Key) : (valV xs k = none ∧ dGet kvs k = none) ∨ ∃ v d, valV xs k = some v ∧ dGet kvs k = some d ∧ Dq K F v d := by
  induction h with
  | nil => exact .inl ⟨rfl, rfl⟩
  | @cons p q ps qs h1 h2 ih =>
    rw [dGet_cons, ← h1.1]
    by_cases e : p.1 = k
    · rw [if_pos e, valV_pos e]; exact .inr ⟨_, _, rfl, rfl, h1.2⟩
    · rw [if_neg e, valV_neg e]; exact ih
theorem KD.put {xs : List (Key × V)} {kvs : List (Key × PyData)} (h : KD K F xs kvs) (k : Key) {w : V} {d : PyData} (q : Dq K F w d) : KD K F (putK xs k w) (dPut kvs k d) := by
  have e : (kvs.any fun p => decide (p.1 = k)) = (xs.any fun p => decide (p.1 = k)) := by
    rw [dGet_any, valV_any]
    rcases h.at k with ⟨a, b⟩ | ⟨q, d, a, b, _⟩ <;> rw [a, b] <;> rfl
  unfold putK dPut
  rw [e]
  by_cases c : (xs.any fun p => decide (p.1 = k)) = true
  · rw [if_pos c, if_pos c]
    clear e c
    induction h with
    | nil => exact .nil
    | @cons p r ps qs h1 h2 ih =>
      rw [List.map_cons, List.map_cons]
      refine .cons ?_ ih
      by_cases e : p.1 = k
      · rw [if_pos e, if_pos (h1.1.symm.trans e)]; exact ⟨h1.1, q⟩
      · rw [if_neg e, if_neg (fun z => e (h1.1.trans z))]; exact h1
  · rw [if_neg c, if_neg c]; exact Paired.snoc h ⟨rfl, q⟩
theorem KD.drop {xs : List (Key × V)} {kvs : List (Key × PyData)} (h : KD K F xs kvs) (k : Key) : KD K F (dropK xs k) (dDrop kvs k) := by
  unfold dropK dDrop
  induction h with
  | nil => exact .nil
  | @cons p r ps qs h1 h2 ih =>
    rw [List.filter_cons, List.filter_cons, ← h1.1]
    by_cases e : p.1 = k
    · simp only [e, ne_eq, not_true, decide_false, Bool.false_eq_true, if_false]; exact ih
    · simp only [e, ne_eq, not_false_eq_true, decide_true, if_true]; exact .cons h1 ih
/-! ### d[k], k in d -/
def RV.dk : RV → Option (List (Key × PyData))
  | .od kvs => some kvs
  | .bd kvs => some kvs
  | _ => none
def RV.dt : RV → Option (List (List Int × PyData))
  | .ot kvs => some kvs
  | .bt kvs => some kvs
  | _ => none
theorem dk_ok {kvs : List (Key × PyData)} (h : RVok K H0 F H v r) (e : r.dk = some kvs) : ∃ p xs, v = .ref p ∧ Rd H p (.dK xs) ∧ KD K F xs kvs := by
  cases r with
  | od ys => cases e; obtain ⟨p, vs, e1, _, _, hp, q⟩ := h; exact ⟨p, vs, e1, .inl hp, q⟩
  | bd ys => cases e; obtain ⟨p, vs, e1, hp, q⟩ := h; exact ⟨p, vs, e1, hp, q⟩
  | _ => cases e
theorem dgetR {H : Hp} {a : Addr} {kvs : List (Key × V)} {k : Key} (e : Rd H a (.dK kvs)) : DGet H a (kV k) (valV kvs k) := .inl ⟨kvs, k, e, rfl, rfl⟩
theorem rd_same {H H' : Hp} {a : Addr} {u : HO} [NT u] (s : SameN H H') (h : Rd H a u) : Rd H' a u := h.imp (fun z => s _ _ z) fun ⟨o, z⟩ => ⟨o, s _ _ z⟩
theorem dt_ok {kvs : List (List Int × PyData)} (h : RVok K H0 F H v r) (e : r.dt = some kvs) : ∃ p n xs, v = .ref p ∧ H p = some (DTO p (n, xs)) ∧ KTl K F xs kvs := by
  cases r with
  | ot ys => cases e; obtain ⟨p, ⟨n, vs⟩, e1, _, _, hp, q⟩ := h; exact ⟨p, n, vs, e1, hp, q⟩
  | bt ys => cases e; obtain ⟨p, ⟨n, vs⟩, e1, hp, q⟩ := h; exact ⟨p, n, vs, e1, hp, q⟩
  | _ => cases e
def RV.sd : RV → Option PyData
  | .d x => some x
  | _ => none
theorem sd_ok {x : PyData} (h : RVok K H0 F H v r) (e : r.sd = some x) : Dq K F v x := by
  cases r with
  | d y => cases e; exact h
  | _ => cases e
def gGetDK (kvs : List (Key × PyData)) (b : RV) : Rs (Option PyData) := (rsO (b.sd.bind keyD)).bind fun k => .ok (dGet kvs k)
def gGetDT (kvs : List (List Int × PyData)) (b : RV) : Rs (Option PyData) := (rsO (b.sd.bind keyTD)).bind fun k => .ok (dGet kvs k)
/-- what a dict holds at a key -/
def gAt (a b : RV) : Rs (Option PyData) := match a.dk with
  | some kvs => gGetDK kvs b
  | none => (match a.dt with
    | some kvs => gGetDT kvs b
    | none => .no)
theorem gAt_ok {v1 v2 : V} {a b : RV} {o : Option PyData} (s : Same F H) (h1 : RVok K H0 F H v1 a) (h2 : RVok K H0 F H v2 b) (e : gAt a b = .ok o) :
    (∃ p z, v1 = .ref p ∧ DGet H p v2 z ∧ ((z = none ∧ o = none) ∨ ∃ w d, z = some w ∧ o = some d ∧ Dq K F w d)) ∨
    (∃ p c n xs ks, v1 = .ref p ∧ v2 = .ref c ∧ H p = some (DTO p (n, xs)) ∧ KeysIn K H xs ∧ SqT K H c (ks.map V.int) ∧ ((atKey xs ks = none ∧ o = none) ∨ ∃ q d w, atKey xs ks = some q ∧ o = some d ∧ RelV w q.2 ∧ Dq K F w d)) := by
  unfold gAt at e
  cases e1 : a.dk with
  | some kvs =>
    rw [e1] at e
    obtain ⟨p, xs, rfl, hp, kd⟩ := dk_ok h1 e1
    simp only [gGetDK] at e
    cases e2 : b.sd with
    | none => rw [e2] at e; cases e
    | some x =>
      rw [e2] at e
      simp only [Option.bind_some] at e
      cases e3 : keyD x with
      | none => rw [e3] at e; cases e
      | some k =>
        rw [e3] at e
        simp only [rsO_some, Rs.bind_ok, Rs.ok.injEq] at e
        subst e
        obtain rfl := keyD_ok (sd_ok h2 e2) e3
        refine .inl ⟨p, _, rfl, dgetR hp, ?_⟩
        rcases kd.at k with h | ⟨w, d, h⟩
        · exact .inl h
        · exact .inr ⟨w, d, h⟩
  | none =>
    rw [e1] at e
    simp only at e
    cases e4 : a.dt with
    | none => rw [e4] at e; cases e
    | some kvs =>
      rw [e4] at e
      obtain ⟨p, n, xs, rfl, hp, kd⟩ := dt_ok h1 e4
      simp only [gGetDT] at e
      cases e2 : b.sd with
      | none => rw [e2] at e; cases e
      | some x =>
        rw [e2] at e
        simp only [Option.bind_some] at e
        cases e3 : keyTD x with
        | none => rw [e3] at e; cases e
        | some k =>
          rw [e3] at e
          simp only [rsO_some, Rs.bind_ok, Rs.ok.injEq] at e
          subst e
          obtain ⟨c, rfl, hc⟩ := keyTD_ok (sd_ok h2 e2) e3
          exact .inr ⟨p, c, n, xs, k, rfl, rfl, hp, kd.keys s, same_seqT s hc.1, kd.at k⟩
def gIxD (a b : RV) : Rs RV := (gAt a b).bind fun o => (rsO o).bind fun d => .ok (.d d)
def gInD (a b : RV) : Rs RV := (gAt b a).bind fun o => okB o.isSome
def gNotInD (a b : RV) : Rs RV := (gAt b a).bind fun o => okB (!o.isSome)
theorem gAt_ex {a b : RV} {c : Nat} {fs : List (Str × PyData)} : gAt a b ≠ .ex c fs := fun e => by
  unfold gAt gGetDK gGetDT at e
  split at e
  · cases e2 : b.sd.bind keyD <;> rw [e2] at e <;> cases e
  · split at e
    · cases e2 : b.sd.bind keyTD <;> rw [e2] at e <;> cases e
    · cases e
theorem s_ixD : Op2S K ca (fun x y H Q => rIxDK x y H Q ∨ rIxDT K x y H Q) gIxD := by
  intro W σ F0 H0 F H v1 v2 a b Q gr h1 h2 p
  unfold gIxD at p
  cases e : gAt a b with
  | no => rw [e] at p; exact p.elim
  | ex c fs => exact absurd e gAt_ex
  | ok o =>
    rw [e] at p
    rcases gAt_ok gr.cfg.sub h1 h2 e with ⟨q, z, rfl, g, hz⟩ | ⟨q, c, n, xs, ks, rfl, rfl, hp, kk, hk, hz⟩
    · rcases hz with ⟨rfl, rfl⟩ | ⟨w, d, rfl, rfl, dq⟩
      · exact p.elim
      · exact .inl ⟨q, w, rfl, g, p F H _ gr dq⟩
    · rcases hz with ⟨_, rfl⟩ | ⟨q', d, w, hq, rfl, rw', dq⟩
      · exact p.elim
      · exact .inr ⟨q, c, n, xs, ks, q', w, rfl, rfl, hp, kk, hk, hq, rw', p F H _ gr dq⟩
theorem s_inD : Op2S K ca (rOr rInDK (rInDT K)) gInD := by
  intro W σ F0 H0 F H v1 v2 a b Q gr h1 h2 p
  unfold gInD at p
  cases e : gAt b a with
  | no => rw [e] at p; exact p.elim
  | ex c fs => exact absurd e gAt_ex
  | ok o =>
    rw [e] at p
    rcases gAt_ok gr.cfg.sub h2 h1 e with ⟨q, z, rfl, g, hz⟩ | ⟨q, c, n, xs, ks, rfl, rfl, hp, kk, hk, hz⟩
    · refine .inl ⟨q, z, rfl, g, ?_⟩
      rcases hz with ⟨rfl, rfl⟩ | ⟨w, d, rfl, rfl, dq⟩ <;> exact p F H _ gr (.bl _)
    · refine .inr ⟨q, c, n, xs, ks, rfl, rfl, hp, kk, hk, ?_⟩
      rcases hz with ⟨e1, rfl⟩ | ⟨q', d, w, hq, rfl, rw', dq⟩
      · rw [e1]; exact p F H _ gr (.bl _)
      · rw [hq]; exact p F H _ gr (.bl _)
theorem s_notInD : Op2S K ca (rOr rNotInDK (rNotInDT K)) gNotInD := by
  intro W σ F0 H0 F H v1 v2 a b Q gr h1 h2 p
  unfold gNotInD at p
  cases e : gAt b a with
  | no => rw [e] at p; exact p.elim
  | ex c fs => exact absurd e gAt_ex
  | ok o =>
    rw [e] at p
    rcases gAt_ok gr.cfg.sub h2 h1 e with ⟨q, z, rfl, g, hz⟩ | ⟨q, c, n, xs, ks, rfl, rfl, hp, kk, hk, hz⟩
    · refine .inl ⟨q, z, rfl, g, ?_⟩
      rcases hz with ⟨rfl, rfl⟩ | ⟨w, d, rfl, rfl, dq⟩ <;> exact p F H _ gr (.bl _)
    · refine .inr ⟨q, c, n, xs, ks, rfl, rfl, hp, kk, hk, ?_⟩
      rcases hz with ⟨e1, rfl⟩ | ⟨q', d, w, hq, rfl, rw', dq⟩
      · rw [e1]; exact p F H _ gr (.bl _)
      · rw [hq]; exact p F H _ gr (.bl _)
end
section
variable {ca : CA} {W : WX} {X : Cx} {a b e : Expr} {es : List Expr} {fa fb fc : VEnv → Rs RV} {pos apos cpos : Pos}
theorem ix_d (hu : X.A.units + 1 < cLine) : IxR X (fun x y H Q => rIxDK x y H Q ∨ rIxDT X.K x y H Q) := (ix_dk hu).or (ix_dt hu)
theorem op_inD2 (hu : X.A.units + 1 < cLine) : OpR X (compareOp .In) (rOr rInDK (rInDT X.K)) := op_or' (op_inDK hu) (op_inDT hu)
theorem op_notInD2 (hu : X.A.units + 1 < cLine) : OpR X (compareOp .NotIn) (rOr rNotInDK (rNotInDT X.K)) := op_or' (op_notInDK hu) (op_notInDT hu)
theorem hu1 {A : Around} {k : Nat} (hr : Room k A) : A.units + 1 < cLine := by have := hr.un; omega
/-! ### {} -/
def cDT : VEnv → Rs RV := fun _ => .ok (.ot [])
def cDK : VEnv → Rs RV := fun _ => .ok (.od [])
theorem ve_dnewT : VE ca W X (.Dict [] [] pos) cDT := by
  refine ⟨_, pe_dnewO, fun B F env σ H Q st p q n => ?_⟩
  have g := Grow.newO st.cfg (DTO q (0, [])) n DTO_tup
  exact p _ _ _ g ⟨q, (0, []), rfl, n, same_none st.cfg.sub n, upd_same, .nil⟩
theorem ve_dnewK : VE ca W X (.Dict [] [] pos) cDK := by
  refine ⟨_, pe_dnewK, fun B F env σ H Q st p q n => ?_⟩
  have g := Grow.newO st.cfg (.dK []) n (fun _ z => by cases z)
  exact p _ _ _ g ⟨q, [], rfl, n, same_none st.cfg.sub n, upd_same, .nil⟩
/-- {k: v} -/
def cDisp1 (fa fb : VEnv → Rs RV) : VEnv → Rs RV := fun env => (fa env).bind fun x => (fb env).bind fun y => (rsO (x.sd.bind keyTD)).bind fun k => (rsO y.toD).bind fun d => .ok (.ot [(k, d)])
theorem ve_disp1 (hu : X.A.units + 1 < cLine) (ha : VE ca W X a fa) (hb : VE ca W X b fb) : VE ca W X (.Dict [some a] [b] pos) (cDisp1 fa fb) := by
  obtain ⟨ta, pa, sa⟩ := ha
  obtain ⟨tb, pb, sb⟩ := hb
  refine ⟨_, pe_disp1 hu pa pb, fun B F env σ H Q st p q n => ?_⟩
  have g := Grow.newO st.cfg (DTO q (0, [])) n DTO_tup
  have st0 := st.grow g
  refine seqE (PostE X.K ca W σ F H Q) sa st0 p (fun _ _ h => PostX.mono g h) (fun h => h) fun x F1 H1 v1 p1 g1 q1 => ?_
  refine seqE (PostE X.K ca W σ F H Q) sb (st0.grow g1) p1 (fun _ _ h => PostX.mono (g.trans g1) h) (fun h => h) fun y F2 H2 v2 p2 g2 q2 => ?_
  have hq : H2 q = some (DTO q (0, [])) := (g1.trans g2).hh _ _ upd_same
  cases e1 : x.sd with
  | none => rw [e1] at p2; exact p2.elim
  | some d1 =>
    rw [e1] at p2
    simp only [Option.bind_some] at p2
    cases e2 : keyTD d1 with
    | none => rw [e2] at p2; exact p2.elim
    | some k =>
      rw [e2] at p2
      simp only [rsO_some, Rs.bind_ok] at p2
      cases e3 : y.toD with
      | none => rw [e3] at p2; exact p2.elim
      | some d2 =>
        rw [e3] at p2
        simp only [rsO_some, Rs.bind_ok] at p2
        obtain ⟨c, rfl, hc⟩ := keyTD_ok (sd_ok (q1.grow g2) e1) e2
        obtain ⟨F3, g3, s3, q3⟩ := frz g2 (Fz.of q2 e3)
        have f1 : F1 q = none := g1.stillFree (same_none st.cfg.sub n) upd_same
        have f3 : F3 q = none := g3.stillFree f1 (g1.hh _ _ upd_same)
        have hc3 := same_seqN s3 hc
        refine ⟨hq, c, k, rfl, same_seqT g3.cfg.sub hc3.1, fun u n' ru => ?_⟩
        exact p2 _ _ _ ((g.trans (g1.trans g3)).write n f3 hq DTO_tup) ⟨q, (n', [(k, c, u)]), rfl, n, f3, upd_same, .cons ⟨rfl, hc3, v2, ru, q3⟩ .nil⟩
/-- {"a": "b", "c": "d"} -/
def cDispS (x y z w : Str) : VEnv → Rs RV := fun _ => .ok (.od [(.inr x, .str y), (.inr z, .str w)])
theorem ve_dispS {x y z w : Str} {k1 k2 k3 k4 : Nat} {p1 p2 p3 p4 : Pos} (hne : x ≠ z) : VE ca W X (.Dict [some (.Constant (.str x) k1 p1), some (.Constant (.str z) k2 p2)] [.Constant (.str y) k3 p3, .Constant (.str w) k4 p4] pos) (cDispS x y z w) := by
  refine ⟨_, pe_disp (pps_cons pe_str pe_str (pps_cons pe_str pe_str pps_nil)) rfl rfl (by simp) (by simp), fun B F env σ H Q st p q n => ?_⟩
  have g := Grow.newO st.cfg (.dK []) n (fun _ z => by cases z)
  have nF := same_none st.cfg.sub n
  refine ⟨upd_same, [(.inr x, .str y), (.inr z, .str w)], rfl, by simp, ?_⟩
  have e : mergeK [] [((.inr x : Key), V.str y), (.inr z, .str w)] = [((.inr x : Key), V.str y), (.inr z, .str w)] := by
    have h2 : ¬ ((Sum.inr x : Key) = .inr z) := fun h => hne (by injection h)
    show putK (putK [] (Sum.inr x) (V.str y)) (Sum.inr z) (V.str w) = _
    have h1 : putK [] (Sum.inr x : Key) (V.str y) = [(Sum.inr x, V.str y)] := rfl
    rw [h1, putK_new _ (by rw [valV_neg h2]; rfl)]
    rfl
  rw [e]
  exact p _ _ _ (g.write n nF upd_same (fun _ z => by cases z)) ⟨q, _, rfl, n, nF, upd_same, .cons ⟨rfl, .str _⟩ (.cons ⟨rfl, .str _⟩ .nil)⟩
/-! ### d[k] = e, xs[i] = e -/
/-- the store into a dict or a list of the def's own -/
def stR (r0 : RV) (ix : RV) (d : PyData) : Rs RV := match r0 with
  | .ol xs => (match ix with
    | .d (.int k) => (rsO (ixN xs.length k)).bind fun j => .ok (.ol (xs.set j d))
    | _ => .no)
  | .od kvs => (rsO (ix.sd.bind keyD)).bind fun k => if kvs.length ≤ 1000000 then .ok (.od (dPut kvs k d)) else .no
  | .ot kvs => (rsO (ix.sd.bind keyTD)).bind fun k => if kvs.length ≤ 1000000 then .ok (.ot (dPut kvs k d)) else .no
  | _ => .no
def sStoreA (i : Nat) (fi fe : VEnv → Rs RV) : VEnv → Out := fun env => match env[i]? with
  | some (some r0) => (fe env).out env fun r => (fi env).out env fun ix => (rsO r.toD).out env fun d => (stR r0 ix d).out env fun r1 => .nx (env.set i (some r1))
  | _ => .no
theorem vs_storeA (i : Nat) {x : Str} {ie : Expr} {p1 p2 : Pos} {fi : VEnv → Rs RV} (hu : X.A.units + 1 < cLine) (he : VE ca W X e fa) (hi : VE ca W X ie fi) (hN : X.N[i]? = some x := by rfl) (hv : Vis X.env.scope x := by first | exact Or.inl rfl | exact Or.inr (Or.inl rfl) | exact Or.inr (Or.inr rfl)) (hd : (x == ("__debug__" : Str)) = false := by decide) (hcd : (x == ("__classdict__" : Str)) = false := by decide)
    (ha : ∀ v, assign (.Subscript (.Name x p1) ie p2) X.env v = (do
      let ov ← holding [v] (eval (.Name x p1) X.env)
      let iv ← holding [v, ov] (eval ie X.env)
      standAt p2
      holding [v, ov, iv] (setItem ov iv v)
      release [v, ov, iv] []) := by intro _; rfl)
    (hs : swapsWithSole [.Subscript (.Name x p1) ie p2] e pos.line X.env = pure false := by rfl) (hw : swappedStores [.Subscript (.Name x p1) ie p2] e X.env = pure none := by rfl)
    (h1 : (assignEach [.Subscript (.Name x p1) ie p2] X.env).map (·.2) = [assign (.Subscript (.Name x p1) ie p2) X.env] := by rfl) :
    VS ca W X (.Assign [.Subscript (.Name x p1) ie p2] e pos) (sStoreA i fi fa) := by
  obtain ⟨t, pe, se⟩ := he
  obtain ⟨ti, pi, si⟩ := hi
  refine ⟨_, ps_asg pe (pg_sub (pe_var hN hv hd hcd) pi (set_or set_list (set_or (set_dk hu) (set_dt hu))) ha) hs hw h1, fun B F env σ H D st p => ?_⟩
  show t σ H fun v H1 => ∃ o, σ[i]? = some (some o) ∧ ti σ H1 fun iv H3 => rOrS rSetL (rOrS rSetDK (rSetDT X.K)) o iv v H3 fun H4 => D.nx σ H4
  unfold sStoreA at p
  split at p
  · rename_i r0 e1
    obtain ⟨v0, s1, ok0⟩ := st.sl i r0 e1
    refine outE se st p fun r F1 H1 v p1 g q1 => ⟨_, s1, ?_⟩
    refine outE si (st.grow g) p1 fun ix F2 H2 w p2 g2 q2 => ?_
    cases e2 : r.toD with
    | none => rw [e2] at p2; exact p2.elim
    | some d =>
      rw [e2] at p2
      simp only [rsO_some, Rs.out_ok] at p2
      obtain ⟨F3, g3, s3, q3⟩ := frz (g.trans g2) (Fz.of (q1.grow g2) e2)
      cases r0 with
      | ol xs =>
        obtain ⟨a, vs, rfl, n0, f0, hp, q⟩ := ok0
        have hp3 := g3.hh _ _ hp
        have f3 := g3.stillFree f0 hp
        cases ix with
        | d y =>
          cases y with
          | int k =>
            simp only [stR] at p2
            cases e3 : ixN xs.length k with
            | none => rw [e3] at p2; exact p2.elim
            | some j =>
              rw [e3] at p2
              cases q2
              refine .inl ⟨a, vs, k, j, rfl, rfl, hp3, by rw [q.length]; exact e3, ?_⟩
              exact p2 F3 σ _ s3 ((st.grow g3).write (r1 := .ol (xs.set j d)) e1 rfl s1 hp3 n0 f3 (fun _ z => by cases z) ⟨a, _, rfl, n0, f3, upd_same, DqA.set q3 j (DqA.mono g3.ff _ _ q)⟩ rfl)
          | _ => exact p2.elim
        | _ => exact p2.elim
      | od kvs =>
        obtain ⟨a, vs, rfl, n0, f0, hp, q⟩ := ok0
        have hp3 := g3.hh _ _ hp
        have f3 := g3.stillFree f0 hp
        simp only [stR] at p2
        cases e4 : ix.sd with
        | none => rw [e4] at p2; exact p2.elim
        | some y =>
          rw [e4] at p2
          simp only [Option.bind_some] at p2
          cases e5 : keyD y with
          | none => rw [e5] at p2; exact p2.elim
          | some k =>
            rw [e5] at p2
            simp only [rsO_some, Rs.bind_ok] at p2
            split at p2
            · rename_i hz
              obtain rfl := keyD_ok (sd_ok q2 e4) e5
              refine .inr (.inl ⟨a, vs, k, rfl, rfl, hp3, by rw [q.length]; exact million hz, ?_⟩)
              exact p2 F3 σ _ s3 ((st.grow g3).write (r1 := .od (dPut kvs k d)) e1 rfl s1 hp3 n0 f3 (fun _ z => by cases z) ⟨a, _, rfl, n0, f3, upd_same, (q.mono g3.ff).put k q3⟩ rfl)
            · exact p2.elim
      | ot kvs =>
        obtain ⟨a, ⟨n, vs⟩, rfl, n0, f0, hp, q⟩ := ok0
        have hp3 := g3.hh _ _ hp
        have f3 := g3.stillFree f0 hp
        simp only [stR] at p2
        cases e4 : ix.sd with
        | none => rw [e4] at p2; exact p2.elim
        | some y =>
          rw [e4] at p2
          simp only [Option.bind_some] at p2
          cases e5 : keyTD y with
          | none => rw [e5] at p2; exact p2.elim
          | some k =>
            rw [e5] at p2
            simp only [rsO_some, Rs.bind_ok] at p2
            split at p2
            · rename_i hz
              obtain ⟨c, rfl, hc⟩ := keyTD_ok (sd_ok q2 e4) e5
              have q' : KTl X.K F3 vs kvs := q.mono g3.ff
              have hc3 := same_seqN s3 hc
              refine .inr (.inr ⟨a, c, n, vs, k, rfl, rfl, hp3, q'.keys g3.cfg.sub, same_seqT g3.cfg.sub hc3.1, by rw [q'.len]; exact million hz, fun u n' ru => ?_⟩)
              exact p2 F3 σ _ s3 ((st.grow g3).write (r1 := .ot (dPut kvs k d)) e1 rfl s1 hp3 n0 f3 DTO_tup ⟨a, (n', _), rfl, n0, f3, upd_same, q'.put k hc3 ru q3⟩ rfl)
            · exact p2.elim
      | _ => exact p2.elim
  · exact p.elim
/-- del d[k] -/
def sDel (i : Nat) (fi : VEnv → Rs RV) : VEnv → Out := fun env => match env[i]? with
  | some (some (.od kvs)) => (fi env).out env fun ix => (rsO (ix.sd.bind keyD)).out env fun k => if (dGet kvs k).isSome = true then .nx (env.set i (some (.od (dDrop kvs k)))) else .no
  | _ => .no
theorem vs_del (i : Nat) {x : Str} {ie : Expr} {p1 p2 : Pos} {fi : VEnv → Rs RV} (hi : VE ca W X ie fi) (hN : X.N[i]? = some x := by rfl) (hv : Vis X.env.scope x := by first | exact Or.inl rfl | exact Or.inr (Or.inl rfl) | exact Or.inr (Or.inr rfl)) (hd : (x == ("__debug__" : Str)) = false := by decide) (hcd : (x == ("__classdict__" : Str)) = false := by decide) :
    VS ca W X (.Delete [.Subscript (.Name x p1) ie p2] pos) (sDel i fi) := by
  obtain ⟨ti, pi, si⟩ := hi
  refine ⟨_, ps_ddel (pe_var hN hv hd hcd) pi, fun B F env σ H D st p => ?_⟩
  show ∃ v, σ[i]? = some (some v) ∧ ti σ H fun y H2 => ∃ a kvs k, v = .ref a ∧ H2 a = some (.dK kvs) ∧ y = kV k ∧ (valV kvs k).isSome = true ∧ D.nx σ (upd H2 a (.dK (dropK kvs k)))
  unfold sDel at p
  split at p
  · rename_i kvs e1
    obtain ⟨v0, s1, a, vs, rfl, n0, f0, hp, q⟩ := st.sl i _ e1
    refine ⟨_, s1, ?_⟩
    refine outE si st p fun ix F2 H2 w p2 g2 q2 => ?_
    cases e4 : ix.sd with
    | none => rw [e4] at p2; exact p2.elim
    | some y =>
      rw [e4] at p2
      simp only [Option.bind_some] at p2
      cases e5 : keyD y with
      | none => rw [e5] at p2; exact p2.elim
      | some k =>
        rw [e5] at p2
        simp only [rsO_some, Rs.out_ok] at p2
        split at p2
        · rename_i hz
          obtain rfl := keyD_ok (sd_ok q2 e4) e5
          have hp2 := g2.hh _ _ hp
          have f2 := g2.stillFree f0 hp
          have q' := q.mono g2.ff
          refine ⟨a, vs, k, rfl, hp2, rfl, ?_, ?_⟩
          · rcases q'.at k with ⟨_, h⟩ | ⟨w, d, h, _⟩
            · rw [h] at hz; cases hz
            · rw [h]; rfl
          · exact p2 F2 σ _ (Same.refl _) ((st.grow g2).write (r1 := .od (dDrop kvs k)) e1 rfl s1 hp2 n0 f2 (fun _ z => by cases z) ⟨a, _, rfl, n0, f2, upd_same, q'.drop k⟩ rfl)
        · exact p2.elim
  · exact p.elim
/-! ### d.get -/
theorem gGetDK_ok {K : PySem.W.Frag} {H0 F H : Hp} {v : V} {y : RV} {kvs : List (Key × PyData)} {o : Option PyData} (h : RVok K H0 F H v y) (e : gGetDK kvs y = .ok o) : ∃ k, v = kV k ∧ o = dGet kvs k := by
  unfold gGetDK at e
  cases e2 : y.sd with
  | none => rw [e2] at e; cases e
  | some x =>
    rw [e2] at e
    simp only [Option.bind_some] at e
    cases e3 : keyD x with
    | none => rw [e3] at e; cases e
    | some k =>
      rw [e3] at e
      simp only [rsO_some, Rs.bind_ok, Rs.ok.injEq] at e
      exact ⟨k, keyD_ok (sd_ok h e2) e3, e.symm⟩
theorem gGetDT_ok {K : PySem.W.Frag} {H0 F H : Hp} {v : V} {y : RV} {kvs : List (List Int × PyData)} {o : Option PyData} (h : RVok K H0 F H v y) (e : gGetDT kvs y = .ok o) : ∃ c ks, v = .ref c ∧ SqT K F c (ks.map V.int) ∧ o = dGet kvs ks := by
  unfold gGetDT at e
  cases e2 : y.sd with
  | none => rw [e2] at e; cases e
  | some x =>
    rw [e2] at e
    simp only [Option.bind_some] at e
    cases e3 : keyTD x with
    | none => rw [e3] at e; cases e
    | some k =>
      rw [e3] at e
      simp only [rsO_some, Rs.bind_ok, Rs.ok.injEq] at e
      obtain ⟨c, rfl, hc⟩ := keyTD_ok (sd_ok h e2) e3
      exact ⟨c, k, rfl, hc.1, e.symm⟩
theorem gGetDK_ex {y : RV} {kvs : List (Key × PyData)} {c : Nat} {fs : List (Str × PyData)} : gGetDK kvs y ≠ .ex c fs := fun e => by
  unfold gGetDK at e
  cases e2 : y.sd.bind keyD <;> rw [e2] at e <;> cases e
theorem gGetDT_ex {y : RV} {kvs : List (List Int × PyData)} {c : Nat} {fs : List (Str × PyData)} : gGetDT kvs y ≠ .ex c fs := fun e => by
  unfold gGetDT at e
  cases e2 : y.sd.bind keyTD <;> rw [e2] at e <;> cases e
def cGet1 (fa fb : VEnv → Rs RV) : VEnv → Rs RV := fun env => (fa env).bind fun x => match x.dk with
  | some kvs => (fb env).bind fun y => (gGetDK kvs y).bind fun o => .ok (.d (o.getD .none))
  | none => (match x.dt with
    | some kvs => (fb env).bind fun y => (gGetDT kvs y).bind fun o => .ok (.d (o.getD .none))
    | none => .no)
def cGet2 (fa fb fc : VEnv → Rs RV) : VEnv → Rs RV := fun env => (fa env).bind fun x => match x.dk with
  | some kvs => (fb env).bind fun y => (fc env).bind fun z => (rsO z.sd).bind fun d => (gGetDK kvs y).bind fun o => .ok (.d (o.getD d))
  | none => (match x.dt with
    | some kvs => (fb env).bind fun y => (fc env).bind fun z => (rsO z.sd).bind fun d => (gGetDT kvs y).bind fun o => .ok (.d (o.getD d))
    | none => .no)
theorem ve_get1 (hu : X.A.units + 1 < cLine) (ha : VE ca W X a fa) (hb : VE ca W X b fb) (m : M1 X a "get" apos b cpos) : VE ca W X (.Call (.Attribute a "get" apos) [b] [] cpos) (cGet1 fa fb) := by
  obtain ⟨ta, pa, sa⟩ := ha
  obtain ⟨tb, pb, sb⟩ := hb
  refine ⟨_, pe_get1 hu pa pb m, fun B F env σ H Q st p => ?_⟩
  unfold tGet1
  refine seqE (PostE X.K ca W σ F H Q) sa st p (fun _ _ h => h) (fun h => h) fun x F1 H1 v1 p1 g1 q1 => ?_
  cases e1 : x.dk with
  | some kvs =>
    rw [e1] at p1
    obtain ⟨p', xs, rfl, hp, kd⟩ := dk_ok q1 e1
    refine ⟨p', rfl, .inl ⟨.inl ⟨xs, hp⟩, ?_⟩⟩
    refine seqE (PostE X.K ca W σ F H Q) sb (st.grow g1) p1 (fun _ _ h => PostX.mono g1 h) (fun h => h) fun y F2 H2 v2 p2 g2 q2 => ?_
    cases e : gGetDK kvs y with
    | no => rw [e] at p2; exact p2.elim
    | ex c fs => exact absurd e gGetDK_ex
    | ok o =>
      rw [e] at p2
      obtain ⟨k, rfl, rfl⟩ := gGetDK_ok q2 e
      refine ⟨_, dgetR (rd_same g2.hh hp), ?_⟩
      rcases (kd.mono g2.ff).at k with ⟨h1, h2⟩ | ⟨w, d, h1, h2, dq⟩
      · rw [h2] at p2; rw [h1]; exact p2 F2 H2 _ (g1.trans g2) .non
      · rw [h2] at p2; rw [h1]; exact p2 F2 H2 _ (g1.trans g2) dq
  | none =>
    rw [e1] at p1
    cases e4 : x.dt with
    | none => rw [e4] at p1; exact p1.elim
    | some kvs =>
      rw [e4] at p1
      obtain ⟨p', n, xs, rfl, hp, kd⟩ := dt_ok q1 e4
      refine ⟨p', rfl, .inr ⟨n, xs, hp, kd.keys g1.cfg.sub, ?_⟩⟩
      refine seqE (PostE X.K ca W σ F H Q) sb (st.grow g1) p1 (fun _ _ h => PostX.mono g1 h) (fun h => h) fun y F2 H2 v2 p2 g2 q2 => ?_
      cases e : gGetDT kvs y with
      | no => rw [e] at p2; exact p2.elim
      | ex c fs => exact absurd e gGetDT_ex
      | ok o =>
        rw [e] at p2
        obtain ⟨c, k, rfl, hc, rfl⟩ := gGetDT_ok q2 e
        have kd2 := kd.mono g2.ff
        rcases kd2.at k with ⟨h1, h2⟩ | ⟨q, d, w, h1, h2, rw', dq⟩
        · rw [h2] at p2
          exact ⟨c, k, .non, rfl, g2.hh _ _ hp, kd2.keys g2.cfg.sub, same_seqT g2.cfg.sub hc, by rw [h1]; rfl, p2 F2 H2 _ (g1.trans g2) .non⟩
        · rw [h2] at p2
          exact ⟨c, k, w, rfl, g2.hh _ _ hp, kd2.keys g2.cfg.sub, same_seqT g2.cfg.sub hc, by rw [h1]; exact rw', p2 F2 H2 _ (g1.trans g2) dq⟩
theorem ve_get2 {c : Expr} (hu : X.A.units + 1 < cLine) (ha : VE ca W X a fa) (hb : VE ca W X b fb) (hc : VE ca W X c fc) (m : M2 X a "get" apos b c cpos) : VE ca W X (.Call (.Attribute a "get" apos) [b, c] [] cpos) (cGet2 fa fb fc) := by
  obtain ⟨ta, pa, sa⟩ := ha
  obtain ⟨tb, pb, sb⟩ := hb
  obtain ⟨tc, pc, sc⟩ := hc
  refine ⟨_, pe_get2 hu pa pb pc m, fun B F env σ H Q st p => ?_⟩
  unfold tGet2
  refine seqE (PostE X.K ca W σ F H Q) sa st p (fun _ _ h => h) (fun h => h) fun x F1 H1 v1 p1 g1 q1 => ?_
  cases e1 : x.dk with
  | some kvs =>
    rw [e1] at p1
    obtain ⟨p', xs, rfl, hp, kd⟩ := dk_ok q1 e1
    refine ⟨p', rfl, .inl ⟨.inl ⟨xs, hp⟩, ?_⟩⟩
    refine seqE (PostE X.K ca W σ F H Q) sb (st.grow g1) p1 (fun _ _ h => PostX.mono g1 h) (fun h => h) fun y F2 H2 v2 p2 g2 q2 => ?_
    refine seqE (PostE X.K ca W σ F H Q) sc ((st.grow g1).grow g2) p2 (fun _ _ h => PostX.mono (g1.trans g2) h) (fun h => h) fun z F3 H3 v3 p3 g3 q3 => ?_
    cases ez : z.sd with
    | none => rw [ez] at p3; exact p3.elim
    | some dz =>
    rw [ez] at p3
    simp only [rsO_some, Rs.bind_ok] at p3
    have dqz := sd_ok q3 ez
    cases e : gGetDK kvs y with
    | no => rw [e] at p3; exact p3.elim
    | ex c fs => exact absurd e gGetDK_ex
    | ok o =>
      rw [e] at p3
      obtain ⟨k, rfl, rfl⟩ := gGetDK_ok q2 e
      refine ⟨_, dgetR (rd_same (g2.trans g3).hh hp), ?_⟩
      rcases (kd.mono (g2.trans g3).ff).at k with ⟨h1, h2⟩ | ⟨w, d, h1, h2, dq⟩
      · rw [h2] at p3; rw [h1]; exact p3 F3 H3 _ ((g1.trans g2).trans g3) dqz
      · rw [h2] at p3; rw [h1]; exact p3 F3 H3 _ ((g1.trans g2).trans g3) dq
  | none =>
    rw [e1] at p1
    cases e4 : x.dt with
    | none => rw [e4] at p1; exact p1.elim
    | some kvs =>
      rw [e4] at p1
      obtain ⟨p', n, xs, rfl, hp, kd⟩ := dt_ok q1 e4
      refine ⟨p', rfl, .inr ⟨n, xs, hp, kd.keys g1.cfg.sub, ?_⟩⟩
      refine seqE (PostE X.K ca W σ F H Q) sb (st.grow g1) p1 (fun _ _ h => PostX.mono g1 h) (fun h => h) fun y F2 H2 v2 p2 g2 q2 => ?_
      refine seqE (PostE X.K ca W σ F H Q) sc ((st.grow g1).grow g2) p2 (fun _ _ h => PostX.mono (g1.trans g2) h) (fun h => h) fun z F3 H3 v3 p3 g3 q3 => ?_
      cases ez : z.sd with
      | none => rw [ez] at p3; exact p3.elim
      | some dz =>
      rw [ez] at p3
      simp only [rsO_some, Rs.bind_ok] at p3
      have dqz := sd_ok q3 ez
      cases e : gGetDT kvs y with
      | no => rw [e] at p3; exact p3.elim
      | ex c fs => exact absurd e gGetDT_ex
      | ok o =>
        rw [e] at p3
        obtain ⟨c, k, rfl, hc, rfl⟩ := gGetDT_ok (q2.grow g3) e
        have kd2 := kd.mono (g2.trans g3).ff
        have hp3 := (g2.trans g3).hh _ _ hp
        rcases kd2.at k with ⟨h1, h2⟩ | ⟨q, d, w, h1, h2, rw', dq⟩
        · rw [h2] at p3
          exact ⟨c, k, v3, rfl, hp3, kd2.keys g3.cfg.sub, same_seqT g3.cfg.sub hc, fun u ru => by rw [h1]; exact ru, p3 F3 H3 _ ((g1.trans g2).trans g3) dqz⟩
        · rw [h2] at p3
          exact ⟨c, k, w, rfl, hp3, kd2.keys g3.cfg.sub, same_seqT g3.cfg.sub hc, fun u ru => by rw [h1]; exact rw', p3 F3 H3 _ ((g1.trans g2).trans g3) dq⟩
/-! ### reckoning -/
variable (f : VEnv → Out) (env : VEnv) (i : Nat) (x y : PyData) (kvs : List (Key × PyData)) (kts : List (List Int × PyData))
theorem e_aug (g : RV → RV → Rs RV) : sAug i g fa env = match env[i]? with
  | some (some r0) => (fa env).out env fun r => (g r0.bor r).out env fun z => putS i z env
  | _ => .no := rfl
theorem e_decT {h : Decidable True} : @decide True h = true := by simp
theorem e_decF {h : Decidable False} : @decide False h = false := by simp
theorem e_cDispS (x y z w : Str) : cDispS x y z w env = .ok (.od [(.inr x, .str y), (.inr z, .str w)]) := rfl
theorem e_cDT : cDT env = .ok (.ot []) := rfl
theorem e_cDK : cDK env = .ok (.od []) := rfl
theorem e_cDisp1 : cDisp1 fa fb env = (fa env).bind fun x => (fb env).bind fun y => (rsO (x.sd.bind keyTD)).bind fun k => (rsO y.toD).bind fun d => .ok (.ot [(k, d)]) := rfl
theorem e_storeA (fi fe : VEnv → Rs RV) : sStoreA i fi fe env = match env[i]? with
  | some (some r0) => (fe env).out env fun r => (fi env).out env fun ix => (rsO r.toD).out env fun d => (stR r0 ix d).out env fun r1 => .nx (env.set i (some r1))
  | _ => .no := rfl
theorem e_stR1 (xs : List PyData) (k : Int) : stR (.ol xs) (.d (.int k)) x = (rsO (ixN xs.length k)).bind fun j => .ok (.ol (xs.set j x)) := rfl
theorem e_stR2 (r : RV) : stR (.od kvs) r x = (rsO (r.sd.bind keyD)).bind fun k => if kvs.length ≤ 1000000 then .ok (.od (dPut kvs k x)) else .no := rfl
theorem e_stR3 (r : RV) : stR (.ot kts) r x = (rsO (r.sd.bind keyTD)).bind fun k => if kts.length ≤ 1000000 then .ok (.ot (dPut kts k x)) else .no := rfl
theorem e_sd1 : (RV.d x).sd = some x := rfl
theorem e_keyD1 (k : Int) : keyD (.int k) = some (.inl k) := rfl
theorem e_keyD2 (k : Str) : keyD (.str k) = some (.inr k) := rfl
theorem e_keyTD (xs : List PyData) : keyTD (.tuple xs) = intsD xs := rfl
theorem e_intsD (ns : List Int) : intsD (ns.map .int) = some ns := intsD_map ns
theorem e_intsD0 : intsD [] = some [] := rfl
theorem e_borT : (RV.ot kts).bor = .bt kts := rfl
theorem e_borT2 : (RV.bt kts).bor = .bt kts := rfl
theorem e_borK : (RV.od kvs).bor = .bd kvs := rfl
theorem e_borK2 : (RV.bd kvs).bor = .bd kvs := rfl
theorem e_argT : (RV.ot kts).arg = .bt kts := rfl
theorem e_argT2 : (RV.bt kts).arg = .bt kts := rfl
theorem e_argK : (RV.od kvs).arg = .bd kvs := rfl
theorem e_argK2 : (RV.bd kvs).arg = .bd kvs := rfl
theorem e_nbT : (RV.ot kts).nb = .ok (.ot kts) := rfl
theorem e_nbK : (RV.od kvs).nb = .ok (.od kvs) := rfl
theorem e_putT : putS i (.ot kts) env = if i < env.length then .nx (env.set i (some (.ot kts))) else .no := rfl
theorem e_putK : putS i (.od kvs) env = if i < env.length then .nx (env.set i (some (.od kvs))) else .no := rfl
theorem e_gAt1 (b : RV) : gAt (.bt kts) b = gGetDT kts b := rfl
theorem e_gAt2 (b : RV) : gAt (.bd kvs) b = gGetDK kvs b := rfl
theorem e_gAt3 (b : RV) : gAt (.od kvs) b = gGetDK kvs b := rfl
theorem e_gAt4 (b : RV) : gAt (.ot kts) b = gGetDT kts b := rfl
theorem e_gGetDK (b : RV) : gGetDK kvs b = (rsO (b.sd.bind keyD)).bind fun k => .ok (dGet kvs k) := rfl
theorem e_gGetDT (b : RV) : gGetDT kts b = (rsO (b.sd.bind keyTD)).bind fun k => .ok (dGet kts k) := rfl
theorem e_gIxD (a b : RV) : gIxD a b = (gAt a b).bind fun o => (rsO o).bind fun d => .ok (.d d) := rfl
theorem e_gInD (a b : RV) : gInD a b = (gAt b a).bind fun o => okB o.isSome := rfl
theorem e_gNotInD (a b : RV) : gNotInD a b = (gAt b a).bind fun o => okB (!o.isSome) := rfl
theorem e_cGet1 : cGet1 fa fb env = (fa env).bind fun x => match x.dk with
  | some kvs => (fb env).bind fun y => (gGetDK kvs y).bind fun o => .ok (.d (o.getD .none))
  | none => (match x.dt with
    | some kvs => (fb env).bind fun y => (gGetDT kvs y).bind fun o => .ok (.d (o.getD .none))
    | none => .no) := rfl
theorem e_cGet2 : cGet2 fa fb fc env = (fa env).bind fun x => match x.dk with
  | some kvs => (fb env).bind fun y => (fc env).bind fun z => (rsO z.sd).bind fun d => (gGetDK kvs y).bind fun o => .ok (.d (o.getD d))
  | none => (match x.dt with
    | some kvs => (fb env).bind fun y => (fc env).bind fun z => (rsO z.sd).bind fun d => (gGetDT kvs y).bind fun o => .ok (.d (o.getD d))
    | none => .no) := rfl
theorem e_dk1 : (RV.bd kvs).dk = some kvs := rfl
theorem e_dk2 : (RV.od kvs).dk = some kvs := rfl
theorem e_dk3 : (RV.bt kts).dk = none := rfl
theorem e_dk4 : (RV.ot kts).dk = none := rfl
theorem e_dt1 : (RV.bt kts).dt = some kts := rfl
theorem e_dt2 : (RV.ot kts).dt = some kts := rfl
theorem e_del (fi : VEnv → Rs RV) : sDel i fi env = match env[i]? with
  | some (some (.od kvs)) => (fi env).out env fun ix => (rsO (ix.sd.bind keyD)).out env fun k => if (dGet kvs k).isSome = true then .nx (env.set i (some (.od (dDrop kvs k)))) else .no
  | _ => .no := rfl
end
end VL

namespace VL
open PySem PySem.Spec PyProof.Rows L2

/-! ## an own exception class: super().__init__(e), fields -/
theorem lookup_mem {l : List (Str × Value)} {y : Str} {u : Value} (nd : (l.map (·.1)).Nodup) (h : (y, u) ∈ l) : l.lookup y = some u := by
  induction l with
  | nil => cases h
  | cons p l ih =>
    obtain ⟨x, v⟩ := p
    rw [List.map_cons, List.nodup_cons] at nd
    rcases List.mem_cons.mp h with e | h
    · cases e; simp [List.lookup]
    · have ne : y ≠ x := fun z => nd.1 (z ▸ List.mem_map_of_mem (f := (·.1)) h)
      have e : (y == x) = false := by simpa using ne
      simp only [List.lookup, e]
      exact ih nd.2 h
theorem lookup_zip {ps : List Str} {us : List Value} {i : Nat} {y : Str} {u : Value} (nd : ps.Nodup) (hl : us.length = ps.length) (h1 : ps[i]? = some y) (h2 : us[i]? = some u) : (ps.zip us).reverse.lookup y = some u := by
  refine lookup_mem ?_ (List.mem_reverse.mpr ?_)
  · rw [List.map_reverse, List.map_fst_zip (by omega)]; unfold List.Nodup; rw [List.pairwise_reverse]; exact nd.imp fun h => Ne.symm h
  · have : (ps.zip us)[i]? = some (y, u) := by rw [List.getElem?_zip_eq_some]; exact ⟨h1, h2⟩
    exact List.mem_of_getElem? this

abbrev envI (qual : Str) (scope : Scope) (L f : Addr) (cdv : Value) (cc : Addr) : Env := PySem.W.ksEnv qual scope L f cdv cc
def cxI (CX : CXT) (P : Program) (w : World) (K : PySem.W.Frag) (mg : Str → Option Value) (base : Heap) (N : List Str) (qual : Str) (scope : Scope) (f : Addr) (cd : Value) (cc : Addr) (A : Around) (outer : List Env) (s : Shared) (H : Hp) (E : XK) : Cx where
  prog := P
  w := w
  K := K
  mg := mg
  base := base
  A := A.deeper (envI qual scope s.heap.objs.size f cd cc)
  N := N
  s_0 := s
  H_0 := H
  env := envI qual scope s.heap.objs.size f cd cc
  outer := outer
  stack := envI qual scope s.heap.objs.size f cd cc :: outer
  ex := []
  calm := true
  fn := fun x => x != "__class__"
  pn := []
  xe := fun e s' => wpAny (model P w) (A.deeper (envI qual scope s.heap.objs.size f cd cc)) (leaving (envI qual scope s.heap.objs.size f cd cc) e) (fun _ s'' => CX outer H s E e s'') (fun e' s'' => CX outer H s E e' s'') s'

structure IniS (N ps : List Str) (sc : Scope) : Prop where
  kind : sc.kind = .function
  co : sc.isCoroutine = false
  gen : sc.isGenerator = false
  nd : N.Nodup
  pre : N.take ps.length = ps
  par : ∀ x ∈ ps, sc.names.lookup x = some .local
  nocell : ∀ y ∈ sc.names, y.2 ≠ .cell
  free : ∀ y ∈ sc.names, y.2 = .free → y.1 = ("__class__" : Str)
  sup : sc.names.lookup ("super" : Str) = some .globalImplicit
  cls : sc.names.lookup ("__class__" : Str) = some .free

structure IniF (P : Program) (K : PySem.W.Frag) (mg : Str → Option Value) (C fI : Addr) (name qual : Str) (params : Arguments) (body : List Stmt) (scope : Scope) (fd : FuncData) (cc : Addr) (cdv : Value) : Prop where
  oex : OexC K C
  fn : ∃ (dV kV doc pm : Value) (an : Option Addr) (ct oc : Value) (od : Option Addr) (osl : Array (Option Value)), fd = PySem.W.ksFn name qual params body scope dV kV doc pm an cdv ct cc ∧ K.lookup fI = some ⟨oc, od, .func fd, osl⟩
  code : PySem.W.codeIn K cdv qual = true
  codeO : ∃ (cda : Addr) (ccl : Value) (cdd : Option Addr) (vs : Array Value) (ccs : Array (Option Value)) (file : Str) (tf : Tok), cdv = .ref cda ∧ K.lookup cda = some ⟨ccl, cdd, .fields vs, ccs⟩ ∧ vs[2]? = some (.str file tf) ∧ ((P.main.file : Str) == file) = true
  cell : ∃ (cl : Value) (cld : Option Addr) (csl : Array (Option Value)), K.lookup cc = some ⟨cl, cld, .cell (some (.ref C)), csl⟩
  sup : ∃ (cd cdT : ClassData) (T : Addr), PySem.W.clsIn K C = some cd ∧ PySem.W.clsIn K T = some cdT ∧ cd.mro = .ref C :: cdT.mro ∧ PySem.W.findIn K (.ref T) "__init__" = some (some (.builtin "ValueError.__init__"))
  subV : PySem.W.subIn K (.ref C) (.type "ValueError") = some true
  opq : PySem.W.nsIn K PySem.cStatics "thirdparty.any" = some none
  nsup : mg "super" = none
  top : (P.main.scope.names.lookup ("super" : Str)).isSome = false

theorem invI {CX : CXT} {P : Program} {w : World} {K : PySem.W.Frag} {mg : Str → Option Value} {base : Heap} {N ps : List Str} {qual : Str} {scope : Scope} {f cc : Addr} {cd : Value} {A : Around} {outer : List Env} {s : Shared} {h₀ : Heap} {t' : Nat} {H : Hp} {E : XK} {us : List Value} {vs : List V} {c : Value}
    (S : IniS N ps scope) (hd : A.handled = none) (e0 : Env0 P w K mg base A outer s H) (hl : vs.length = ps.length) (r : Vals vs us) (hcell : ∃ o, K.lookup cc = some o ∧ o.data = .cell (some c))
    (ns : h₀.Ns s.heap.objs.size (fun x => (ps.zip us).reverse.lookup x)) (hk : ∀ b o, s.heap.get? b = some o → h₀.get? b = some o) :
    Inv (cxI CX P w K mg base N qual scope f cd cc A outer s H E) [] (start N vs) H { s with heap := h₀, toks := t' } := by
  have hpl : ps.length ≤ N.length := by have := congrArg List.length S.pre; rw [List.length_take] at this; omega
  have noA : ∀ b : Addr, b ∉ (cxI CX P w K mg base N qual scope f cd cc A outer s H E).ex := fun b z => absurd (show b ∈ ([] : List Addr) from z) (by simp)
  obtain ⟨oc, hoc, hcd⟩ := hcell
  have hb : base.get? cc = some oc := e0.mod.kin _ _ hoc
  have onlyC : ∀ {x : Str} {b : Addr}, (cxI CX P w K mg base N qual scope f cd cc A outer s H E).env.cells.lookup x = some b → x = ("__class__" : Str) ∧ b = cc := fun {x b} h => by
    have h' : List.lookup x [(("__class__" : Str), cc)] = some b := h
    by_cases e : x = ("__class__" : Str)
    · subst e
      simp [List.lookup] at h'
      exact ⟨rfl, h'.symm⟩
    · have e' : (x == ("__class__" : Str)) = false := by simpa using e
      simp [List.lookup, e'] at h'
  refine ⟨⟨e0.mod, S.kind, rfl, rfl, Nat.le_refl _, fun y z b h1 h2 => ?_, fun y hy => ?_, fun y b hy h => ?_, fun _ => hd, Around.frames_deeper e0.frames, .inr ⟨rfl, rfl⟩, fun b z => absurd z (noA b), e0.bs, e0.bsz, fun b _ _ => noA b, fun b z => absurd z (noA b), e0.funs, e0.frf⟩,
    rfl, e0.bare, Un.kept hk, ⟨_, ns, fun i y v h1 h2 h3 => ?_⟩, fun y b h => ?_, e0.hok.fresh (Nat.le_refl _), fun y b h => ?_, fun p hp => absurd (show p ∈ ([] : List (Addr × Obj)) from hp) (by simp), e0.hok.kept hk, ?_⟩
  · exact (onlyC h1).1.trans (onlyC h2).1.symm
  · have hy : scope.names.lookup y = some .cell ∨ scope.names.lookup y = some .free := hy
    rcases hy with hy | hy
    · exact absurd rfl (S.nocell _ (PySem.mem_of_lookup hy))
    · have := S.free _ (PySem.mem_of_lookup hy) rfl
      exact ⟨cc, by subst this; rfl⟩
  · have := (onlyC h).1
    subst this
    have hy' : ((("__class__" : Str)) != (("__class__" : Str))) = true := hy
    exact absurd hy' (by decide)
  · have hi : i < vs.length := by
      unfold L2.start at h2
      by_cases hi : i < vs.length
      · exact hi
      · rw [List.getElem?_append_right (by simpa using hi)] at h2
        rw [List.getElem?_replicate] at h2
        split at h2 <;> cases h2
    have ha : vs[i]? = some v := by
      unfold L2.start at h2
      rw [List.getElem?_append_left (by simpa using hi), List.getElem?_map] at h2
      cases e : vs[i]? with
      | none => rw [e] at h2; cases h2
      | some a => rw [e] at h2; cases h2; rfl
    obtain ⟨u, hu, rv⟩ := r.get ha
    have hp : ps[i]? = some y := by
      rw [← S.pre, List.getElem?_take_of_lt (by omega)]; exact h1
    have ndP : ps.Nodup := by rw [← S.pre]; exact S.nd.sublist (List.take_sublist _ _)
    exact ⟨u, rv, .inl ⟨S.par y (List.mem_of_getElem? hp), lookup_zip ndP (by rw [← Paired.length r, hl]) hp hu⟩⟩
  · obtain ⟨rfl, rfl⟩ := onlyC h
    exact ⟨_, _, hk _ _ ((e0.bs _ _ hb).1), hcd⟩
  · obtain ⟨rfl, rfl⟩ := onlyC h
    exact (e0.bs _ _ hb).2
  · unfold L2.start
    show _ = N.length
    rw [List.length_append, List.length_map, List.length_replicate]
    omega
end VL

namespace VL
open PySem PySem.Spec PyProof.Rows L2
section
open PySem.W PySem.Calls
variable {prog : Program} {w : World} {A : Around} {E : Value → Shared → Prop} {h : Heap} {g : Array GenState} {d : Drawn} {t : Nat} {os : OsState}
variable {nm q : Str} {C N : Addr} {bs bm : List Value} {hdct : Bool} {sn : List Str} {sub : List Value} {ab : Bool} {col : Option Bool} {dd : Option Addr} {k0 k1 k2 k3 k5 : Option Value}
theorem call_mw {u e t0 : Addr} {rest : List Value} {Q : Value → Shared → Prop}
    (hC : h.get? C = some (excClassObj nm q C N bs bm hdct sn sub ab col dd k0 k1 k2 k3 k5 "ValueError.__new__")) (he : h.get? e = some (HandSPX.excO C t0)) (hu : h.get? u = some (kxs_mw "ValueError.__init__" e)) (hrest : rest.length ≤ sizeLine)
    (hq : ∀ h' t1, (∀ b o, b ≠ e → h.get? b = some o → h'.get? b = some o) → h'.get? e = some (HandSPX.excO C t1) → Q .none ⟨h', g, d, t, os⟩) :
    wpAny (model prog w) A (call (.ref u) rest) Q E ⟨h, g, d, t, os⟩ := by
  refine wpAny_call (codeAny_of_tree ?_)
  show wpAny _ A.in1 (callAny (.ref u) ⟨rest, []⟩) _ _ _
  simp only [callAny]
  refine wpAny_bind (wpAny_load hu ?_)
  simp only [kxs_mw, show (Value.type "method-wrapper" == Value.type "method" || Value.type "method-wrapper" == Value.type "builtin_function_or_method" || Value.type "method-wrapper" == Value.type "method-wrapper") = true by decide, if_true]
  refine KFB.if_so (by decide) ?_
  refine wpAny_bind (ESX.check_bound F.excBase_ValueError hC he rfl ?_)
  refine wpAny_bind (wpAny_pure (wpAny_pure ?_))
  refine ⟨Code.quiet_builtin _ (by decide +kernel), codeAny_builtin F.excBase_ValueError.initEntry ?_⟩
  rw [Around.under_plainId F.excBase_ValueError.init.plain _]
  wp_walk
  refine hq _ h.objs.size (fun b o hb ho => ?_) ?_
  · rw [Heap.get?_update_other _ _ (Ne.symm hb)]
    exact Heap.get?_push_of_some _ ho
  · rw [Heap.get?_update_self _ (Heap.get?_push_of_some _ he) rfl]
    rfl
end
section
open PySem.W
variable {X : Cx} {pins : List (Addr × Obj)} {σ : L2.St} {H : Hp} {s : Shared} {C fI : Addr} {name qual : Str} {params : Arguments} {body : List Stmt} {scope : Scope} {fd : FuncData} {cc : Addr} {cdv : Value}
theorem boot_super : bootBuiltins "super" = some (.type "super") := by first | rfl | kernel_rfl
/-- super().__init__(e): nothing of it is told -/
theorem super_ok {L a : Addr} {ar : Arg} {e : Expr} {p0 p1 p2 p3 : Pos} {te : TE} {pl : Sem Bool} {Q : Value → Shared → Prop} {E : Value → Shared → Prop}
    (T : IniF X.prog X.K X.mg C fI name qual params body scope fd cc cdv) (hX : X.env = envI qual scope L fI cdv cc) (hA : X.env.kindOf ("super" : Str) = some .globalImplicit) (hcl : X.env.kindOf ("__class__" : Str) = some .free) (hpar : (params.posonlyargs ++ params.args).head? = some ar)
    (hself : X.N[0]? = some ar.arg) (hloc : X.env.kindOf ar.arg = some .local) (I : Inv X pins σ H s) (hσ : σ[0]? = some (some (V.ref a))) (ha : H a = some (exo a C none)) (pe : PE X e te) (hte : ∀ Q : VK, (∀ v, Q v H) → te σ H Q)
    (hq : ∀ s', Inv X pins σ H s' → Q .none s') (hE : E = X.xe)
    (hev : eval (.Call (.Attribute (.Call (.Name "super" p0) [] [] p1) "__init__" p2) [e] [] p3) X.env = (do
      let ov ← attributeBase (.Call (.Name "super" p0) [] [] p1) "__init__" X.env (eval (.Call (.Name "super" p0) [] [] p1) X.env)
      standAt p2.atName
      let (f, first) ← holding [ov] (getMethod ov "__init__" pl)
      callWith p3 f first (backTo p3 (starEach [e] X.env)) []))
    (he : starEach [e] X.env = (false, eval e X.env) :: starEach [] X.env) (hpl : (backTo p3 (starEach [] X.env)).any (·.1) = false) :
    _root_.PySem.wpAt (model X.prog X.w) X.A (.func body X.env) (eval (.Call (.Attribute (.Call (.Name "super" p0) [] [] p1) "__init__" p2) [e] [] p3) X.env) Q E s := by
  subst hE
  obtain ⟨nm, q, N, bs, bm, sn, sub, ab, col, dd, k0, k1, k2, k3, k5, hC, hbm⟩ := T.oex.cls
  obtain ⟨dV, kV, doc, pm, an, ct, oc, od, osl, rfl, lk⟩ := T.fn
  obtain ⟨cda, ccl, cdd, vs, ccs, file, tf, rfl, lkc, hvs, hfile⟩ := T.codeO
  obtain ⟨cl, cld, csl, lkcell⟩ := T.cell
  obtain ⟨cd, cdT, TT, hcd, hcdT, hmro, hfind⟩ := T.sup
  refine ks_wpAt_MethodCall (pl := pl) ?_ hev
  refine ks_wpAt_super_base (env := X.env) hA hcl rfl (by rw [hX]) (I.kIn _ _ lk) rfl hpar (by rw [hX]) (I.kIn _ _ lkc) rfl hvs hfile T.top ?_
  obtain ⟨mb, h1, h2⟩ := I.mod.blt
  refine ks_loadName_global I.ok.kind hA (PySem.Calls.loadGlobal_builtin (by rw [I.ok.glob]; exact I.mod.glob.keeps I.bk) T.nsup (by rw [I.ok.blt]; exact h1.keeps I.bk) ((h2 "super" (by decide)).trans boot_super) ⟨rfl, ?_⟩)
  refine wpAny_loadName_free I.ok.kind hcl (by rw [hX]; rfl) ⟨_, I.kIn _ _ lkcell, rfl⟩ ?_
  obtain ⟨m, hn, hlk⟩ := I.loc
  obtain ⟨u, ru, look⟩ := hlk 0 ar.arg (.ref a) hself hσ (.inl hloc)
  obtain rfl : u = Value.ref a := ru
  have hm : m ar.arg = some (Value.ref a) := by
    rcases look with ⟨_, z⟩ | ⟨z, _⟩
    · exact z
    · rw [hloc] at z
      rcases z with z | z <;> cases z
  refine wpAny_loadName_local I.ok.kind hloc hn hm ?_
  obtain ⟨t1, hae⟩ := exo_at I.hok ha
  have fr : ∀ {b : Addr} {s1 : Shared}, Inv X pins σ H s1 → b ∈ X.fs → ∃ o, s1.heap.get? b = some o := fun {b s1} J hb => by
    obtain ⟨_, o, ho, _⟩ := J.ok.funs.mem hb
    exact J.base.there b o ho (fun z => J.ok.exfs b z hb)
  obtain ⟨hh, g, d, t, os⟩ := s
  refine ks_wpAny_isType_cls (I.kIn _ _ hC) rfl ⟨rfl, ?_⟩
  have hsub : mroIn X.K C (.ref C) = some true := by
    unfold mroIn
    rw [hcd, Option.bind_some, hmro]
    simp
  refine ks_wpAny_call_super (I.kIn _ _ hC) rfl hae rfl (fun c z => by cases z) (looks_mroIn I.kIn hsub) (fun h' hso k => ?_)
  have I1 : Inv X pins σ H ⟨h', g, d, t, os⟩ := I.kept (t' := t) k
  obtain ⟨t2, hae1⟩ := exo_at I1.hok ha
  have IA : InstAt h' a ({ cls := .ref C, dict := none, data := .fields #[.ref t2, .none, .none, .none, .bool false, .none] } : Obj) C none := ⟨hae1, rfl, rfl, trivial⟩
  refine kxs_getMethod kxs_ValueError hso (looks_opaque I1.kIn T.opq) (l₀ := cd.mro) (fun A Q E s k q => wpAny_bind ((looks_clsIn I1.kIn hcd) A _ E s k (wpAny_pure q))) (l := cdT.mro) (by rw [hmro]; exact ESX.drop_own _ _) I1.kIn ?_ (IA.type.andThen (looks_subIn I1.kIn T.subV)) (ks_ne I1.kIn IA hcd) (by decide) ?_
  · unfold findIn at hfind
    unfold clsIn at hcdT
    split at hcdT
    · rename_i c' d' cd' sl' ho
      cases hcdT
      dsimp only at hfind
      rw [ho] at hfind
      exact hfind
    · cases hcdT
  have kp : ∀ b o, h'.get? b = some o → (h'.push (kxs_mw "ValueError.__init__" a)).get? b = some o := fun b o e => Heap.get?_push_of_some _ e
  have I2 : Inv X pins σ H ⟨h'.push (kxs_mw "ValueError.__init__" a), g, d, t + 1, os⟩ := I1.kept (t' := t + 1) kp
  have hu : (h'.push (kxs_mw "ValueError.__init__" a)).get? h'.objs.size = some (kxs_mw "ValueError.__init__" a) := Heap.get?_push_at rfl rfl
  have I3 : Inv X ((h'.objs.size, kxs_mw "ValueError.__init__" a) :: pins) σ H ⟨h'.push (kxs_mw "ValueError.__init__" a), g, d, t + 1, os⟩ := I2.pins_of fun p hp => by
    rcases List.mem_cons.mp hp with rfl | hp
    · refine ⟨hu, I1.hok.fresh (Nat.le_refl _), fun z => ?_, fun z => ?_, fun v z => by cases z⟩
      · obtain ⟨_, ⟨oL, _, _, hoL, _⟩, _⟩ := I1.loc
        have := Heap.lt_size (show h'.get? X.env.locals = some oL from hoL)
        have z' : h'.objs.size = X.env.locals := z
        rw [← z'] at this
        exact Nat.lt_irrefl _ this
      · obtain ⟨o, ho⟩ := fr I1 z
        exact absurd (Heap.lt_size (show h'.get? h'.objs.size = some o from ho)) (Nat.lt_irrefl _)
    · exact I2.pin p (List.mem_append_right _ hp)
  show wpAny _ X.A (callWith p3 (.ref h'.objs.size) [] (backTo p3 (starEach [e] X.env)) []) Q X.xe _
  have pa := pa_cons pe pa_nil he
  refine kxs_callWith (i := "ValueError.__init__") (x := a) (by rw [he]; show (false || (backTo p3 (starEach [] X.env)).any (·.1)) = false; rw [hpl]; rfl) ?_
  have run := pa.run p3 ((h'.objs.size, kxs_mw "ValueError.__init__" a) :: pins) _ σ H (fun vs H1 => vs.length = 1 ∧ H1 = H) I3 (hte _ fun v => ⟨rfl, rfl⟩)
  rw [he] at run ⊢
  refine PySem.Calls.evalArgs_plain (wpAny_mono run (fun us s1 hs => ?_) fun _ _ z => z)
  obtain ⟨ws, H1, J1, r1, hlen, rfl⟩ := hs
  obtain ⟨hu1, _⟩ := J1.pin (h'.objs.size, kxs_mw "ValueError.__init__" a) (List.mem_append_right _ List.mem_cons_self)
  refine ⟨hu1, ?_⟩
  obtain ⟨t3, hae3⟩ := exo_at J1.hok ha
  have J2 : Inv X pins σ H1 s1 := J1.pins_of fun p hp => J1.pin p (List.mem_append_right _ (List.mem_cons_of_mem _ hp))
  obtain ⟨hp1, g1, d1, t4, os1⟩ := s1
  refine call_mw (J2.kIn _ _ hC) hae3 hu1 (by show us.length ≤ sizeLine; rw [← Paired.length r1, hlen, sizeLine_eq]; omega) (fun h2 t5 k2 hx => ?_)
  have J := J2.write (t' := t4) (x := a) (e := a) (o := exo a C none) (by rw [ha]; exact True.intro) (.inl rfl) k2 ⟨_, hx⟩ (exo_ok hx)
  have eu : upd H1 a (exo a C none) = H1 := by
    funext b
    by_cases hb : b = a
    · rw [hb, upd_same, ha]
    · rw [upd_ne hb]
  rw [eu] at J
  exact hq _ J
end
section
variable {P : Program} {w : World} {K : PySem.W.Frag} {mg : Str → Option Value} {base : Heap} {C fI : Addr} {name qual : Str} {params : Arguments} {scope : Scope} {fd : FuncData} {cc : Addr} {cdv : Value}
/-- an own class's __init__ keeps its promise: the fields, by the reading t -/
def spI (C : Addr) (N ps : List Str) (t : TS) : Sp := fun vs H Q E => vs.length = ps.length ∧ ∃ (a : Addr) (ws : List V), vs = .ref a :: ws ∧ H a = some (exo a C none) ∧ t { nx := fun _ H' => Q .non H', rt := Q } (L2.start N vs) H
theorem init_ok {N ps : List Str} {k : Nat} {ar : Arg} {e : Expr} {p0 p1 p2 p3 p4 : Pos} {pl : Addr → Sem Bool} {rest : List Stmt} {t : TS} (S : IniS N ps scope)
    (T : IniF P K mg C fI name qual params (.Expr (.Call (.Attribute (.Call (.Name "super" p0) [] [] p1) "__init__" p2) [e] [] p3) p4 :: rest) scope fd cc cdv) (hpar : (params.posonlyargs ++ params.args).head? = some ar) (hself : ps[0]? = some ar.arg)
    (hev : ∀ L, eval (.Call (.Attribute (.Call (.Name "super" p0) [] [] p1) "__init__" p2) [e] [] p3) (envI qual scope L fI cdv cc) = (do
      let ov ← attributeBase (.Call (.Name "super" p0) [] [] p1) "__init__" (envI qual scope L fI cdv cc) (eval (.Call (.Name "super" p0) [] [] p1) (envI qual scope L fI cdv cc))
      standAt p2.atName
      let (f, first) ← holding [ov] (getMethod ov "__init__" (pl L))
      callWith p3 f first (backTo p3 (starEach [e] (envI qual scope L fI cdv cc))) []))
    (he : ∀ L, starEach [e] (envI qual scope L fI cdv cc) = (false, eval e (envI qual scope L fI cdv cc)) :: starEach [] (envI qual scope L fI cdv cc)) (hpl : ∀ L, (backTo p3 (starEach [] (envI qual scope L fI cdv cc))).any (·.1) = false)
    (hin : ∀ L, interactive (envI qual scope L fI cdv cc) = false) (hsw : ∀ L, swapsWith (.Call (.Attribute (.Call (.Name "super" p0) [] [] p1) "__init__" p2) [e] [] p3) none p4.line (envI qual scope L fI cdv cc) = pure false)
    (hbody : ∀ (A : Around) (outer : List PySem.Env) (s : Shared) (H : Hp) (E : XK) (vs : List V), vs.length = ps.length → (∃ te, PE (cxI (L2.CX P w) P w K mg base N qual scope fI cdv cc A outer s H E) e te ∧ ∀ Q : VK, (∀ v, Q v H) → te (L2.start N vs) H Q) ∧ PSs (cxI (L2.CX P w) P w K mg base N qual scope fI cdv cc A outer s H E) rest t) :
    FnOk P w K mg base (L2.CX P w) (k + 1) fI fd ps (spI C N ps t) := by
  refine ⟨fun vs H Q E h => h.1, fun A outer s H args us vs Q E hr e0 hb r hsp => ?_⟩
  obtain ⟨hl, a, ws, rfl, ha, ht⟩ := hsp
  have KX : K.In s.heap := e0.mod.kin.keeps fun b o e => (e0.bs b o e).1
  have lim : s.heap.NoLimit := e0.mod.nolimit.keeps fun b o e => (e0.bs b o e).1
  obtain ⟨dV, kV, doc, pm, an, ct, oc, od, osl, hfd, lk⟩ := id T.fn
  obtain ⟨cl, cld, csl, lkcell⟩ := T.cell
  have hl1 : us.length = ps.length := by rw [← Paired.length r, hl]
  subst hfd
  refine PySem.ks_codeAny_call_defAt (binds := ps.zip us) hr.depth (KX _ _ lk) rfl lim (PySem.W.codeRec_of KX T.code) rfl hb S.nocell (fun x hx => S.par _ (List.of_mem_zip hx).1) (fun h₀ ns hk => ?_) S.co S.gen S.kind
  have I := invI (CX := L2.CX P w) (w := w) (N := N) (qual := qual) (f := fI) (cd := cdv) (E := E) (t' := s.toks + (ps.zip us).length) S hr.hd e0 hl r ⟨_, lkcell, rfl⟩ ns hk
  obtain ⟨⟨te, pe, hte⟩, prest⟩ := hbody A outer s H E _ hl
  have hN0 : N[0]? = some ar.arg := by
    have hp : 0 < ps.length := by
      cases hps : ps with
      | nil => rw [hps] at hself; cases hself
      | cons _ _ => simp
    rw [← hself, ← S.pre, List.getElem?_take_of_lt hp]
  refine PySem.ks_wpAt_execs_cons (PySem.ks_wpAt_Expr_any ?_ (hin _) (hsw _))
  refine super_ok (X := cxI (L2.CX P w) P w K mg base N qual scope fI cdv cc A outer s H E) (pl := pl s.heap.objs.size) T rfl S.sup S.cls hpar hN0 (S.par _ (List.mem_of_getElem? hself)) I rfl ha pe hte (fun s' J => ?_) rfl (hev _) (he _) (hpl _)
  refine PySem.wpAt_of_wpAny (wpAny_mono (prest.run [] s' _ H _ J ht) (fun fl s2 hs => ?_) fun e s2 hs => hs)
  have fin : ∀ {σ' : L2.St} {H' : Hp} {v : V} {u : Value}, Inv (cxI (L2.CX P w) P w K mg base N qual scope fI cdv cc A outer s H E) [] σ' H' s2 → RelV v u → Q v H' → CE outer P w H s Q u s2 :=
    fun {σ' H' v u} J rv q => ⟨v, H', J.os, J.bare, J.base, J.hok, rv, q⟩
  cases fl with
  | ret u =>
    obtain ⟨v, σ', H', J, rv, q⟩ := hs
    exact fin J rv q
  | next =>
    obtain ⟨σ', H', J, q⟩ := hs
    exact fin (v := V.non) (u := Value.none) J rfl q
  | brk =>
    obtain ⟨_, _, _, q⟩ := hs
    exact False.elim q
  | cont =>
    obtain ⟨_, _, _, q⟩ := hs
    exact False.elim q
end
end VL

namespace VL
open PySem PySem.Spec PyProof.Rows L2

/-! ## raise C(e, ..) -/
def fldD (flds : List (Str × Nat)) (ds : List PyData) : Option (List (Str × PyData)) := flds.mapM fun p => (ds[p.2]?).map fun d => (p.1, d)
def fldV (flds : List (Str × Nat)) (ws : List V) : Option (List (Str × V)) := flds.mapM fun p => (ws[p.2]?).map fun d => (p.1, d)
theorem fld_kd {K : PySem.W.Frag} {F : Hp} : ∀ {flds : List (Str × Nat)} {ws : List V} {ds : List PyData} {fs : List (Str × PyData)}, DqA K F ws ds → fldD flds ds = some fs → ∃ xs, fldV flds ws = some xs ∧ KD K F xs fs
  | [], _, _, _, _, h => by
    cases h
    exact ⟨[], rfl, .nil⟩
  | (f, i) :: flds, ws, ds, fs, q, h => by
    unfold fldD at h
    rw [List.mapM_cons] at h
    cases e : ds[i]? with
    | none => rw [e] at h; cases h
    | some d =>
      rw [e] at h
      cases e2 : fldD flds ds with
      | none =>
        unfold fldD at e2
        rw [e2] at h; cases h
      | some r =>
        obtain ⟨xs, h1, h2⟩ := fld_kd q e2
        unfold fldD at e2
        rw [e2] at h
        cases h
        have go : ∀ {ws : List V} {ds : List PyData} {i : Nat}, DqA K F ws ds → ds[i]? = some d → ∃ v, ws[i]? = some v ∧ Dq K F v d := by
          intro ws ds i q
          induction ws generalizing ds i with
          | nil => cases q; intro z; simp at z
          | cons w ws ih =>
            cases q with
            | cons q1 q2 =>
              intro z
              cases i with
              | zero => simp at z; subst z; exact ⟨w, rfl, q1⟩
              | succ i => obtain ⟨v, a, b⟩ := ih (i := i) q2 (by simpa using z); exact ⟨v, by simpa using a, b⟩
        obtain ⟨v, a, b⟩ := go q e
        refine ⟨(f, v) :: xs, ?_, .cons ⟨rfl, b⟩ h2⟩
        unfold fldV at h1 ⊢
        rw [List.mapM_cons, a]
        simp only [Option.map_some, Option.pure_def, Option.bind_eq_bind, Option.bind_some, h1]
theorem outA {K : PySem.W.Frag} {ca : CA} {W : WX} {B : Base} {F H : Hp} {env : VEnv} {σ : L2.St} {t : TA} {f : VEnv → Rs (List RV)} {Q : List V → Hp → Prop} {D : Ends} {k : List RV → Out} (s : SndA K ca W t f) (st : StOk K ca B F env σ H)
    (post : PostS K ca W B F D ((f env).out env k)) (h : ∀ r F1 H1 vs, PostS K ca W B F1 D (k r) → Grow F H F1 H1 → Paired (fun v r => RVok K H F1 H1 v r) vs r → Q vs H1) : t σ H Q := by
  refine s B F env σ H Q st ?_
  cases e : f env with
  | ok r => rw [e] at post; exact fun F' H' v g q => h r F' H' v (PostS.mono g.ff post) g q
  | ex c fs => rw [e] at post; exact exOut st post
  | no => rw [e] at post; exact post
/-- what the reading of an __init__ comes to -/
def IniT (C : Addr) (n : Nat) (flds : List (Str × Nat)) (t : List V → VK → Hp → Prop) : Prop :=
  ∀ (a : Addr) (ws : List V) (xs : List (Str × V)) (H : Hp) (Q : VK), ws.length = n → fldV flds ws = some xs → H a = some (exo a C none) →
    (∀ d H2, H d = none → d ≠ a → H2 a = some (exo a C (some d)) → H2 d = some (exd d xs) → (∀ b, b ≠ a → b ≠ d → H2 b = H b) → Q .non H2) → t (.ref a :: ws) Q H
def sRaise (c n : Nat) (flds : List (Str × Nat)) (fa : VEnv → Rs (List RV)) : VEnv → Out := fun env => (fa env).out env fun rs => (rsO ((allD rs).bind (fldD flds))).out env fun fs => if rs.length = n ∧ n ≤ 900 then .ex c fs env else .no
section
variable {ca : CA} {W : WX} {X : Cx} {e : Expr} {es : List Expr} {fa : VEnv → Rs (List RV)} {pos p p1 : Pos}
theorem vs_raise {c n k : Nat} {flds : List (Str × Nat)} {x : Str} {fI : Addr} {fd : FuncData} {N ps : List Str} {t : TS} (T : OexC X.K (ca c)) (iC : PySem.W.findIn X.K (.ref (ca c)) "__init__" = some (some (.ref fI))) (tI : PySem.W.typeIn X.K (.ref fI) = some (.type "function"))
    (F1 : FnOk X.prog X.w X.K X.mg X.base (L2.CX X.prog X.w) k fI fd ps (spI (ca c) N ps t)) (hn : ps.length = n + 1) (ht : IniT (ca c) n flds (fun vs Q H => t { nx := fun _ H' => Q .non H', rt := Q } (L2.start N vs) H)) (hr : Room (k + 1) X.A) (hb : Binds X.K fd ps [])
    (tk : Takes X W) (hc : X.calm = true) (hg : Gl X x) (hm : X.mg x = some (.ref (ca c))) (ha : VA ca W X (e :: es) fa)
    (hdb : (x == ("__debug__" : Str)) = false := by decide) (he : starEach (e :: es) X.env = (false, eval e X.env) :: starEach es X.env := by rfl) (hpl : (backTo p (starEach es X.env)).any (·.1) = false := by rfl) :
    VS ca W X (.Raise (some (.Call (.Name x p1) (e :: es) [] p)) none pos) (sRaise c n flds fa) := by
  obtain ⟨ta, pa, sa⟩ := ha
  refine ⟨_, ps_raise hc tk (pmk_oex (ds := []) (dvs := []) T iC tI F1 hr hb .nil (passes_call tk fun _ _ _ _ z => z.elim) hg hm pa hdb he hpl), fun B F env σ H D st q => ?_⟩
  show ta σ H fun vs H1 => vs.length ≤ 1000 ∧ ∀ a, H1 a = none → spI (ca c) N ps t (.ref a :: (vs ++ [])) (upd H1 a (exo a (ca c) none))
    (fun v H2 => v = .non ∧ ∃ (d : Addr) (fs : List (Str × V)), H2 a = some (exo a (ca c) (some d)) ∧ H2 d = some (exd d fs) ∧ H1 d = none ∧ W (.ref (ca c)) (some d) σ (upd (del H2 a) d (.xd fs))) (fun _ _ _ => False)
  refine outA sa st q fun rs F1 H1 vs q1 g1 pr => ?_
  cases e1 : allD rs with
  | none => rw [e1] at q1; exact q1.elim
  | some ds =>
    rw [e1] at q1
    cases e2 : fldD flds ds with
    | none => simp only [Option.bind_some, e2, rsO_none, Rs.out_no] at q1; exact q1.elim
    | some fs =>
      simp only [Option.bind_some, e2, rsO_some, Rs.out_ok] at q1
      split at q1
      · rename_i hln
        obtain ⟨F2, g2, s2, q2⟩ := frzs g1 (Fz.ofs pr e1)
        obtain ⟨xs, hx, kd⟩ := fld_kd q2 e2
        have hvl : vs.length = n := by rw [Paired.length pr]; exact hln.1
        refine ⟨by omega, fun a na => ⟨by rw [List.append_nil]; simp [hvl, hn], a, vs ++ [], rfl, upd_same, ?_⟩⟩
        rw [List.append_nil]
        refine ht a vs xs (upd H1 a (exo a (ca c) none)) (fun v H2 => v = .non ∧ ∃ (d : Addr) (fs : List (Str × V)), H2 a = some (exo a (ca c) (some d)) ∧ H2 d = some (exd d fs) ∧ H1 d = none ∧ W (.ref (ca c)) (some d) σ (upd (del H2 a) d (.xd fs))) hvl hx upd_same (fun d H2 nd nda ea ed rest => ⟨rfl, d, xs, ea, ed, ?_, ?_⟩)
        · rw [upd_ne nda] at nd; exact nd
        · have nd1 : H1 d = none := by rw [upd_ne nda] at nd; exact nd
          have eH : upd (del H2 a) d (.xd xs) = upd H1 d (.xd xs) := by
            funext b
            by_cases hbd : b = d
            · rw [hbd, upd_same, upd_same]
            · rw [upd_ne hbd, upd_ne hbd]
              by_cases hba : b = a
              · rw [hba, del_same, na]
              · rw [del_ne hba, rest b hba hbd, upd_ne hba]
          rw [eH]
          have g3 := Grow.newO g2.cfg (.xd xs) nd1 (fun _ z => by cases z)
          exact q1 F2 σ _ (.ref (ca c)) (some d) s2 (st.grow (g2.trans g3)) ⟨rfl, d, xs, rfl, upd_same, kd⟩
      · exact q1.elim
end

/-! ## try: body / except C as n: suite -/
def Out.clr (i : Nat) : Out → Out
  | .nx env => .nx (env.set i none)
  | .bk env => .bk (env.set i none)
  | .ct env => .ct (env.set i none)
  | .rt r => .rt r
  | .rm o d => .rm o d
  | .rp x fs d => .rp x fs d
  | _ => .no
open Classical in
noncomputable def oneOut (f : Addr → Addr → Out) : Out := if h : ∃ o, ∀ a dd, f a dd = o then Classical.choose h else .no
theorem oneOut_eq {f : Addr → Addr → Out} {o : Out} (h : ∀ a dd, f a dd = o) : oneOut f = o := by
  unfold oneOut
  rw [dif_pos ⟨o, h⟩]
  have z := Classical.choose_spec (⟨o, h⟩ : ∃ o, ∀ a dd, f a dd = o)
  exact (z 0 0).symm.trans (h 0 0)
theorem oneOut_at {f : Addr → Addr → Out} (h : oneOut f ≠ .no) (a dd : Addr) : f a dd = oneOut f := by
  unfold oneOut at h ⊢
  split at h
  · rename_i z
    rw [dif_pos z]
    exact Classical.choose_spec z a dd
  · exact absurd rfl h
noncomputable def sTry (mt : Nat → Option Bool) (i : Nat) (body : VEnv → Out) (suite : Addr → Addr → Nat → VEnv → Out) : VEnv → Out := fun env => match body env with
  | .ex c fs env' => (match mt c with
    | some true => if i < env'.length then oneOut fun a dd => (suite a dd c (env'.set i (some (.xo a dd c fs)))).clr i else .no
    | some false => .ex c fs env'
    | none => .no)
  | o => o
def tUS (K : PySem.W.Frag) (ca : CA) (W : WX) (f : VEnv → Out) : TS := fun D σ H => ∃ B F env, StOk K ca B F env σ H ∧ PostS K ca W B F D (f env)
theorem VSs.pss {ca : CA} {W : WX} {X : Cx} {st : List Stmt} {f : VEnv → Out} (h : VSs ca W X st f) : PSs X st (tUS X.K ca W f) := by
  obtain ⟨t, p, s⟩ := h
  exact ⟨fun pins sh σ H D I q => by
    obtain ⟨B, F, env, so, post⟩ := q
    exact p.run pins sh σ H D I (s B F env σ H D so post)⟩
def wNo : WX := fun _ _ _ _ => False
theorem takes_no {X : Cx} : Takes X wNo := fun _ _ ⟨_, _, _, _, _, _, _, _, _, _, _, _, _, _, _, _, z⟩ => z.elim
section
variable {ca : CA} {Wout : WX} {X : Cx} {x n : Str} {C : Value} {i : Nat} {body suite : List Stmt} {b₀ : Stmt} {np pos pos' : Pos}
theorem vs_try {mt : Nat → Option Bool} {fb : VEnv → Out} {fs : Addr → Addr → Nat → VEnv → Out} (hs : X.stack = X.env :: X.outer) (hf : X.env.frame = some X.env.locals) (hN : X.N.Nodup) (hi : X.N[i]? = some n) (hln : X.env.kindOf n = some .local) (hc : Names X x C) (tk : Takes X Wout)
    (hm : ∀ c b, mt c = some b → PySem.W.exmOne X.K (.ref (ca c)) C = some b)
    (hb : ∀ (W : WX) (pn : List (Addr × Obj)) (xe : Value → Shared → Prop), Takes (X.tr pn xe) W → PassesOwn (model X.prog X.w) X.A X.env xe → VSs ca W (X.tr pn xe) body fb)
    (hsu : ∀ (a dd : Addr) (c : Nat) (oe : Obj) (pn : List (Addr × Obj)), Zc (.ref (ca c)) (some dd) oe → (∃ vs, oe.data = .fields vs) → VSs ca wNo (X.suite a ((a, oe) :: pn)) (b₀ :: suite) (fs a dd c)) :
    VS ca Wout X (.Try body [.ExceptHandler (some (.Name x np)) (some n) (b₀ :: suite) pos'] [] [] pos) (sTry mt i fb fs) := by
  refine ⟨_, ps_try_as (tb := fun W => tUS X.K ca W fb) (ts := fun a cls d D σ H => ∃ c dd, cls = .ref (ca c) ∧ d = some dd ∧ tUS X.K ca wNo (fs a dd c) D σ H) hs hf hN hi hln hc tk (fun W pn xe t p => (hb W pn xe t p).pss) (fun a oe cls d pn hz hd => ⟨fun pins s σ H D I q => ?_⟩), fun B F env σ H D st q => ?_⟩
  · obtain ⟨c, dd, rfl, rfl, q⟩ := q
    exact (hsu a dd c oe pn hz hd).pss.run pins s σ H D I q
  · refine ⟨B, F, env, st, ?_⟩
    unfold sTry at q
    cases e : fb env with
    | nx env' => rw [e] at q; exact q
    | bk env' => rw [e] at q; exact q
    | ct env' => rw [e] at q; exact q
    | rt r => rw [e] at q; exact q
    | rm o d => rw [e] at q; exact q
    | rp x fs d => rw [e] at q; exact q
    | no => rw [e] at q; exact q
    | ex c fl env' =>
      rw [e] at q
      dsimp only at q
      intro F1 σ1 H1 cls dx s1 st1 xo
      obtain ⟨rfl, dd, xs, rfl, hdd, kd⟩ := xo
      cases em : mt c with
      | none => rw [em] at q; exact q.elim
      | some b =>
        rw [em] at q
        refine ⟨b, hm c b em, fun hb1 a na => ?_, fun hb1 => ?_⟩
        · subst hb1
          dsimp only at q
          split at q
          · rename_i hlt
            refine ⟨c, dd, rfl, rfl, B, F1, _, st1.put0 hlt (r := .xo a dd c fl) ⟨rfl, xs, hdd, kd⟩ rfl rfl, ?_⟩
            have q1 : PostS X.K ca Wout B F1 D ((fs a dd c (env'.set i (some (.xo a dd c fl)))).clr i) := by
              have hno : oneOut (fun a dd => (fs a dd c (env'.set i (some (.xo a dd c fl)))).clr i) ≠ .no := fun z => by rw [z] at q; exact q
              have := oneOut_at hno a dd
              rw [this]
              exact PostS.mono s1 q
            generalize fs a dd c (env'.set i (some (.xo a dd c fl))) = o at q1 ⊢
            cases o with
            | nx e2 => exact fun F2 σ2 H2 s2 st2 => q1 F2 _ H2 s2 (st2.drop i)
            | bk e2 => exact fun F2 σ2 H2 s2 st2 => q1 F2 _ H2 s2 (st2.drop i)
            | ct e2 => exact fun F2 σ2 H2 s2 st2 => q1 F2 _ H2 s2 (st2.drop i)
            | rt r => exact q1
            | rm o d => exact q1
            | rp x fs d => exact q1
            | ex c2 f2 e2 => exact q1.elim
            | no => exact q1.elim
          · exact q.elim
        · subst hb1
          exact q F1 σ1 H1 _ _ s1 st1 ⟨rfl, dd, xs, rfl, hdd, kd⟩
end
section
variable {ca : CA} {W : WX} {X : Cx}
/-- e.f, e the exception that the suite holds -/
def cXf (a dd c : Nat) (cs : Nat → Bool) (i : Nat) (f : Str) : VEnv → Rs RV := fun env => match env[i]? with
  | some (some (.xo a' dd' c' fs)) => if a' = a ∧ dd' = dd ∧ c' = c ∧ cs c = true then (rsO (fs.lookup f)).bind fun d => .ok (.d d) else .no
  | _ => .no
theorem kd_lookup {K : PySem.W.Frag} {F : Hp} {f : Str} {d : PyData} : ∀ {xs : List (Str × V)} {fs : List (Str × PyData)}, KD K F xs fs → fs.lookup f = some d → ∃ v, xs.lookup f = some v ∧ Dq K F v d
  | _, _, .nil, h => by cases h
  | (k, v) :: xs, (k', d') :: fs, .cons h1 h2, h => by
    obtain ⟨e, q⟩ := h1
    have e' : k = k' := e
    subst e'
    by_cases z : f = k
    · subst z
      simp [List.lookup] at h
      subst h
      exact ⟨v, by simp [List.lookup], q⟩
    · have z' : (f == k) = false := by simpa using z
      simp only [List.lookup, z'] at h ⊢
      exact kd_lookup h2 h
theorem ve_xf {a dd c i : Nat} {cs : Nat → Bool} {oe : Obj} {pn : List (Addr × Obj)} {f x : Str} {p pos : Pos} (T : ∀ c, cs c = true → XfC X.K (ca c) ∧ PySem.W.findIn X.K (.ref (ca c)) f = some none) (hz : Zc (.ref (ca c)) (some dd) oe) (hf : ∃ vs, oe.data = .fields vs)
    (hN : X.N[i]? = some x) (hv : Vis X.env.scope x) (hd : (x == ("__debug__" : Str)) = false := by decide) (hcd : (x == ("__classdict__" : Str)) = false := by decide) (hb : ∀ env, attributeBase (.Name x p) f env (eval (.Name x p) env) = eval (.Name x p) env := by intro _; rfl) :
    VE ca W (X.suite a ((a, oe) :: pn)) (.Attribute (.Name x p) f pos) (cXf a dd c cs i f) := by
  by_cases hc : cs c = true
  · obtain ⟨T1, T2⟩ := T c hc
    refine ⟨_, pe_xf T1 T2 hz hf (pe_var (X := X.suite a ((a, oe) :: pn)) hN hv hd hcd) (hb _), fun B F env σ H Q st q => ?_⟩
    unfold cXf at q
    split at q
    · rename_i a' dd' c' fs e
      obtain ⟨v, ev, h⟩ := st.sl i _ e
      obtain ⟨rfl, xs, hdd, kd⟩ := h
      split at q
      · rename_i hcond
        obtain ⟨rfl, rfl, rfl, _⟩ := hcond
        cases el : fs.lookup f with
        | none => rw [el] at q; exact q.elim
        | some d =>
          rw [el] at q
          obtain ⟨u, hu, dq⟩ := kd_lookup kd el
          exact ⟨_, ev, rfl, rfl, dd', xs, u, rfl, hdd, hu, q F H u (Grow.refl st.cfg) dq⟩
      · exact q.elim
    · exact q.elim
  · refine ⟨fun _ _ _ => False, ⟨fun _ _ _ _ _ _ h => h.elim⟩, fun B F env σ H Q st q => ?_⟩
    unfold cXf at q
    split at q
    · rw [if_neg (fun z => hc z.2.2.2)] at q
      exact q.elim
    · exact q.elim
end
end VL

namespace VL
open PySem PySem.Spec PyProof.Rows L2
theorem start_at {N : List Str} {vs : List V} {i : Nat} {v : V} (h : vs[i]? = some v) : (L2.start N vs)[i]? = some (some v) := by
  unfold L2.start
  have hi : i < vs.length := (List.getElem?_eq_some_iff.mp h).1
  rw [List.getElem?_append_left (by simpa using hi), List.getElem?_map, h]
  rfl
theorem te_var {N : List Str} {vs : List V} {k : Nat} {H : Hp} (h : k < vs.length) (Q : VK) (hQ : ∀ v, Q v H) : tVar k (L2.start N vs) H Q :=
  ⟨vs[k], start_at (by rw [List.getElem?_eq_getElem h]), hQ _⟩
def clsBody (s : Stmt) : List Stmt := match s with
  | .ClassDef _ _ _ b _ _ _ _ _ _ _ => b
  | _ => []
theorem exm_mk {K : PySem.W.Frag} {C : Addr} {cls : Value} {b : Bool} (h1 : PySem.W.subIn K (.ref C) (.type "BaseException") = some true) (hdct : PySem.W.hasDictIn K C = true) (ht : PySem.W.typeIn K (.ref C) = some (.type "type")) (h4 : PySem.W.subIn K cls (.ref C) = some b) : PySem.W.exmOne K cls (.ref C) = some b := by
  obtain ⟨cd, hc, _⟩ := PySem.W.any_some hdct
  have e1 : (PySem.W.subIn K (.ref C) (.type "BaseException") == some true) = true := by rw [h1] <;> rfl
  have e2 : ((PySem.W.clsIn K C).isSome && PySem.W.typeIn K (.ref C) == some (.type "type")) = true := by rw [hc, ht] <;> rfl
  show (if (PySem.W.subIn K (.ref C) (.type "BaseException") == some true) = true then (if ((PySem.W.clsIn K C).isSome && PySem.W.typeIn K (.ref C) == some (.type "type")) = true then PySem.W.subIn K cls (.ref C) else none) else none) = some b
  rw [if_pos e1, if_pos e2]
  exact h4
section
variable {K : PySem.W.Frag} {C : Addr} {N : List Str} {f1 f2 : Str} {i j n : Nat}
theorem ini1 (T : OexC K C) (n1 : PySem.W.findIn K (.ref C) f1 = some none) : IniT C n [(f1, i)] (fun vs Q H => (tOst K f1 (tVar 0) (tVar (i + 1))) { nx := fun _ H' => Q .non H', rt := Q } (L2.start N vs) H) := by
  intro a ws xs H Q hl hx ha h
  cases e1 : ws[i]? with
  | none => unfold fldV at hx; simp [e1] at hx
  | some v1 =>
    have ex : xs = [(f1, v1)] := by unfold fldV at hx; simp [e1] at hx; exact hx.symm
    subst ex
    refine ⟨v1, start_at (by simpa using e1), .ref a, start_at rfl, a, C, rfl, T, n1, .inl ⟨ha, fun dx nd ne => ?_⟩⟩
    refine h dx _ nd ne upd_same (by rw [upd_ne ne, upd_same]) fun b h1 h2 => ?_
    rw [upd_ne h1, upd_ne h2]
theorem ini2 (T : OexC K C) (n1 : PySem.W.findIn K (.ref C) f1 = some none) (n2 : PySem.W.findIn K (.ref C) f2 = some none) : IniT C n [(f2, j), (f1, i)] (fun vs Q H => (tSeq (tOst K f1 (tVar 0) (tVar (i + 1))) (tOst K f2 (tVar 0) (tVar (j + 1)))) { nx := fun _ H' => Q .non H', rt := Q } (L2.start N vs) H) := by
  intro a ws xs H Q hl hx ha h
  cases e1 : ws[i]? with
  | none => unfold fldV at hx; cases e2 : ws[j]? <;> simp [e1, e2] at hx
  | some v1 =>
    cases e2 : ws[j]? with
    | none => unfold fldV at hx; simp [e1, e2] at hx
    | some v2 =>
      have ex : xs = [(f2, v2), (f1, v1)] := by unfold fldV at hx; simp [e1, e2] at hx; exact hx.symm
      subst ex
      refine ⟨v1, start_at (by simpa using e1), .ref a, start_at rfl, a, C, rfl, T, n1, .inl ⟨ha, fun dx nd ne => ?_⟩⟩
      refine ⟨v2, start_at (by simpa using e2), .ref a, start_at rfl, a, C, rfl, T, n2, .inr ⟨dx, [(f1, v1)], upd_same, by rw [upd_ne ne, upd_same], by simp, ?_⟩⟩
      refine h dx _ nd ne (by rw [upd_ne (Ne.symm ne), upd_same]) upd_same fun b h1 h2 => ?_
      rw [upd_ne h2, upd_ne h1, upd_ne h2]
end
/-! the reckoning of it -/
theorem e_raise {c n : Nat} {flds : List (Str × Nat)} {fa : VEnv → Rs (List RV)} {env : VEnv} : sRaise c n flds fa env = (fa env).out env fun rs => (rsO ((allD rs).bind (fldD flds))).out env fun fs => if rs.length = n ∧ n ≤ 900 then .ex c fs env else .no := rfl
theorem e_try_nx {mt : Nat → Option Bool} {i : Nat} {fb : VEnv → Out} {fs : Addr → Addr → Nat → VEnv → Out} {env : VEnv} (h : ∀ c fl e, fb env ≠ .ex c fl e) : sTry mt i fb fs env = fb env := by
  unfold sTry
  cases e : fb env with
  | ex c fl e' => exact absurd e (h c fl e')
  | _ => rfl
theorem e_try_ok {mt : Nat → Option Bool} {i : Nat} {fb : VEnv → Out} {fs : Addr → Addr → Nat → VEnv → Out} {env : VEnv} {o : Out} (h : fb env = o) (hn : ∀ c fl e, o ≠ .ex c fl e) : sTry mt i fb fs env = o := by
  rw [e_try_nx (fun c fl e => by rw [h]; exact hn c fl e), h]
theorem e_try_ex {mt : Nat → Option Bool} {i : Nat} {fb : VEnv → Out} {fs : Addr → Addr → Nat → VEnv → Out} {env env' : VEnv} {c : Nat} {fl : List (Str × PyData)} {o : Out} (h : fb env = .ex c fl env') (hm : mt c = some true) (hl : i < env'.length)
    (hs : ∀ a dd, (fs a dd c (env'.set i (some (.xo a dd c fl)))).clr i = o) : sTry mt i fb fs env = o := by
  unfold sTry
  rw [h]
  dsimp only
  rw [hm]
  dsimp only
  rw [if_pos hl]
  exact oneOut_eq hs
theorem e_clr1 (i env) : (Out.nx env).clr i = .nx (env.set i none) := rfl
theorem e_clr2 (i env) : (Out.bk env).clr i = .bk (env.set i none) := rfl
theorem e_clr3 (i env) : (Out.ct env).clr i = .ct (env.set i none) := rfl
theorem e_clr4 (i r) : (Out.rt r).clr i = .rt r := rfl
theorem e_xf {a dd c i : Nat} {cs : Nat → Bool} {f : Str} {env : VEnv} : cXf a dd c cs i f env = match env[i]? with
  | some (some (.xo a' dd' c' fs)) => if a' = a ∧ dd' = dd ∧ c' = c ∧ cs c = true then (rsO (fs.lookup f)).bind fun d => .ok (.d d) else .no
  | _ => .no := rfl
/-! what the text says of its classes -/
theorem oex_mk {K : PySem.W.Frag} {C : Addr} {nm q : Str} {N : Addr} {bs bm : List Value} {sn : List Str} {sub : List Value} {ab : Bool} {col : Option Bool} {dd : Option Addr} {k0 k1 k2 k3 k5 : Option Value} (l : K.lookup C = some (excClassObj nm q C N bs bm true sn sub ab col dd k0 k1 k2 k3 k5 "ValueError.__new__"))
    (hb : PySem.HandSPX.refsVE bm = true) (sa : PySem.W.findIn K (.ref C) "__setattr__" = some (some (.builtin "object.__setattr__"))) (exC : PySem.W.subIn K (.ref C) (.type "BaseException") = some true) (tyC : PySem.W.typeIn K (.ref C) = some (.type "type")) (kC : PySem.W.keepIn K (.ref C) = true) : OexC K C :=
  ⟨⟨nm, q, N, bs, bm, sn, sub, ab, col, dd, k0, k1, k2, k3, k5, l, hb⟩, sa, exC, tyC, kC⟩
end VL

namespace VL
open PySem PySem.Spec PyProof.Rows L2
/-! ## isinstance of a caught exception -/
structure IsE (K : PySem.W.Frag) (C : Addr) : Prop where
  hga : PySem.W.findIn K (.ref C) "__getattribute__" = some (some (.builtin "BaseException.__getattribute__"))
  hgt : PySem.W.findIn K (.ref C) "__getattr__" = some none
  hs : PySem.W.subIn K (.ref C) (.type "BaseException") = some true
  hd : PySem.W.hasDictIn K C = true
  ha : PySem.W.findIn K (.ref C) "__class__" = some (some (.builtin "object.__class__"))
  hn : PySem.W.specialIn K (.builtin "object.__class__") "__get__" = some (some (.builtin "getset_descriptor.__get__"))
  ht : PySem.W.takesIn K (.builtin "object.__class__") = some true
  hm : PySem.W.mroIn K C (.type "object") = some true
def rIsX (K : PySem.W.Frag) (C a dd : Addr) : List V → Hp → VK → Prop := fun xs H Q => ∃ (c : V) (cv : Value) (b : Bool) (fs : List (Str × V)), xs = [.ref a, c] ∧ (∀ u, RelV c u → u = cv) ∧ PySem.W.kitOne K (.ref C) cv = some b ∧ H dd = some (.xd fs) ∧ Q (.bl b) H
theorem call_isX {X : Cx} {a C dd : Addr} {oe : Obj} {pn : List (Addr × Obj)} (T : IsE X.K C) (hz : Zc (.ref C) (some dd) oe) (hf : ∃ vs, oe.data = .fields vs) : CallR (X.suite a ((a, oe) :: pn)) (.builtin "isinstance") (rIsX X.K C a dd) := by
  intro pins s σ H xs us Q I r h
  obtain ⟨c, cv, b, fs, rfl, hcv, e, hdd, q⟩ := h
  cases r with
  | cons rx rr =>
    cases rr with
    | cons rt rr =>
      cases rr
      cases rx
      have ec := hcv _ rt
      subst ec
      obtain ⟨hget, _⟩ := I.pin (a, oe) (List.mem_append.mpr (.inl List.mem_cons_self))
      obtain ⟨vs, hv⟩ := hf
      have hx : ObjOk X.prog X.w H s.heap dd (.xd fs) := I.hok dd _ hdd
      obtain ⟨mA, hns, hr⟩ := hx
      obtain ⟨od, ho, hl⟩ := lookIn_ns hns
      have J : PySem.W.InstAt s.heap a oe C (some od) := ⟨hget, hz.1, by unfold PySem.W.notCls; rw [hv] <;> rfl, by rw [hz.2]; exact ho⟩
      exact PySem.W.kia_one (PySem.W.kitx_exc (by obtain ⟨cd, hc, _⟩ := PySem.W.any_some T.hd; rw [hc]; rfl) T.hga T.hgt T.hs T.ha T.hn T.ht T.hm) I.kIn J e (fun z => nomatch z) fun tk => ⟨.bl b, H, I.kept (t' := tk) fun _ _ z => z, rfl, q⟩
def cIsE (a dd c : Nat) (tb : Nat → Option Bool) (i : Nat) : VEnv → Rs RV := fun env => match env[i]? with
  | some (some (.xo a' dd' c' fs)) => if a' = a ∧ dd' = dd ∧ c' = c then (rsO (tb c)).bind fun b => .ok (.d (.bool b)) else .no
  | _ => .no
theorem e_isE {a dd c i : Nat} {tb : Nat → Option Bool} {env : VEnv} : cIsE a dd c tb i env = match env[i]? with
  | some (some (.xo a' dd' c' fs)) => if a' = a ∧ dd' = dd ∧ c' = c then (rsO (tb c)).bind fun b => .ok (.d (.bool b)) else .no
  | _ => .no := rfl
section
variable {ca : CA} {W : WX} {X : Cx}
theorem ve_isX {a dd c i : Nat} {tb : Nat → Option Bool} {oe : Obj} {pn : List (Addr × Obj)} {x x2 : Str} {p p1 p2 pos : Pos} {cv : V} {cu : Value} (T : ∀ c b, tb c = some b → IsE X.K (ca c) ∧ PySem.W.kitOne X.K (.ref (ca c)) cu = some b) (hz : Zc (.ref (ca c)) (some dd) oe) (hf : ∃ vs, oe.data = .fields vs)
    (hg : Gl X "isinstance") (hm : X.mg "isinstance" = none) (pc : PE (X.suite a ((a, oe) :: pn)) (.Name x2 p2) (tC cv)) (rc : ∀ u, RelV cv u → u = cu)
    (hN : X.N[i]? = some x) (hv : Vis X.env.scope x) (hd : (x == ("__debug__" : Str)) = false := by decide) (hcd : (x == ("__classdict__" : Str)) = false := by decide)
    (hs : starEach [.Name x p1, .Name x2 p2] X.env = (false, eval (.Name x p1) X.env) :: starEach [.Name x2 p2] X.env := by rfl) (hs2 : starEach [.Name x2 p2] X.env = (false, eval (.Name x2 p2) X.env) :: starEach [] X.env := by rfl) (hpl : (backTo pos (starEach [.Name x2 p2] X.env)).any (·.1) = false := by rfl) :
    VE ca W (X.suite a ((a, oe) :: pn)) (.Call (.Name "isinstance" p) [.Name x p1, .Name x2 p2] [] pos) (cIsE a dd c tb i) := by
  cases et : tb c with
  | none =>
    refine ⟨fun _ _ _ => False, ⟨fun _ _ _ _ _ _ h => h.elim⟩, fun B F env σ H Q st q => ?_⟩
    unfold cIsE at q
    rw [et] at q
    split at q
    · split at q <;> exact q.elim
    · exact q.elim
  | some b =>
    obtain ⟨T1, T2⟩ := T c b et
    refine ⟨_, pe_callB (X := X.suite a ((a, oe) :: pn)) (call_isX T1 hz hf) hg hm (by decide +kernel) (pa_cons (pe_var (X := X.suite a ((a, oe) :: pn)) hN hv hd hcd) (pa_cons pc pa_nil hs2) hs) (by decide) (by decide) hs hpl, fun B F env σ H Q st q => ?_⟩
    unfold cIsE at q
    rw [et] at q
    split at q
    · rename_i a' dd' c' fs e
      obtain ⟨v, ev, h⟩ := st.sl i _ e
      obtain ⟨rfl, xs, hdd, kd⟩ := h
      split at q
      · rename_i hcond
        obtain ⟨rfl, rfl, rfl⟩ := hcond
        exact ⟨_, ev, cv, cu, b, xs, rfl, rc, T2, hdd, q F H _ (Grow.refl st.cfg) (.bl b)⟩
      · exact q.elim
    · exact q.elim
theorem ve_isE {a dd c i : Nat} {tb : Nat → Option Bool} {oe : Obj} {pn : List (Addr × Obj)} {x x2 : Str} {p p1 p2 pos : Pos} {D : Addr} (T : ∀ c b, tb c = some b → IsE X.K (ca c) ∧ PySem.W.kitOne X.K (.ref (ca c)) (.ref D) = some b) (hz : Zc (.ref (ca c)) (some dd) oe) (hf : ∃ vs, oe.data = .fields vs)
    (hg : Gl X "isinstance") (hm : X.mg "isinstance" = none) (hg2 : Gl X x2) (hm2 : X.mg x2 = some (.ref D)) (hN : X.N[i]? = some x) (hv : Vis X.env.scope x) (hd : (x == ("__debug__" : Str)) = false := by decide) (hcd : (x == ("__classdict__" : Str)) = false := by decide) (hd2 : (x2 == ("__debug__" : Str)) = false := by decide)
    (hs : starEach [.Name x p1, .Name x2 p2] X.env = (false, eval (.Name x p1) X.env) :: starEach [.Name x2 p2] X.env := by rfl) (hs2 : starEach [.Name x2 p2] X.env = (false, eval (.Name x2 p2) X.env) :: starEach [] X.env := by rfl) (hpl : (backTo pos (starEach [.Name x2 p2] X.env)).any (·.1) = false := by rfl) :
    VE ca W (X.suite a ((a, oe) :: pn)) (.Call (.Name "isinstance" p) [.Name x p1, .Name x2 p2] [] pos) (cIsE a dd c tb i) :=
  ve_isX T hz hf hg hm (pe_glob (X := X.suite a ((a, oe) :: pn)) (v := .ref D) hg2 hm2 rfl hd2) (fun _ h => h) hN hv hd hcd hs hs2 hpl
theorem ve_isV {a dd c i : Nat} {tb : Nat → Option Bool} {oe : Obj} {pn : List (Addr × Obj)} {x x2 : Str} {p p1 p2 pos : Pos} {D : String} (T : ∀ c b, tb c = some b → IsE X.K (ca c) ∧ PySem.W.kitOne X.K (.ref (ca c)) (.type D) = some b) (hz : Zc (.ref (ca c)) (some dd) oe) (hf : ∃ vs, oe.data = .fields vs)
    (hg : Gl X "isinstance") (hm : X.mg "isinstance" = none) (hg2 : Gl X x2) (hm2 : X.mg x2 = none) (hv2 : bootBuiltins x2 = some (.type D)) (hN : X.N[i]? = some x) (hv : Vis X.env.scope x) (hn2 : x2 ≠ "__name__" := by decide) (hd : (x == ("__debug__" : Str)) = false := by decide) (hcd : (x == ("__classdict__" : Str)) = false := by decide) (hd2 : (x2 == ("__debug__" : Str)) = false := by decide)
    (hs : starEach [.Name x p1, .Name x2 p2] X.env = (false, eval (.Name x p1) X.env) :: starEach [.Name x2 p2] X.env := by rfl) (hs2 : starEach [.Name x2 p2] X.env = (false, eval (.Name x2 p2) X.env) :: starEach [] X.env := by rfl) (hpl : (backTo pos (starEach [.Name x2 p2] X.env)).any (·.1) = false := by rfl) :
    VE ca W (X.suite a ((a, oe) :: pn)) (.Call (.Name "isinstance" p) [.Name x p1, .Name x2 p2] [] pos) (cIsE a dd c tb i) :=
  ve_isX T hz hf hg hm (pe_bltn (X := X.suite a ((a, oe) :: pn)) (v := .ty D) hg2 hm2 hv2 rfl hn2 hd2) (fun _ h => h) hN hv hd hcd hs hs2 hpl
end
theorem kit_mk {K : PySem.W.Frag} {C D : Addr} {b : Bool} (hd : PySem.W.hasDictIn K D = true) (ty : PySem.W.typeIn K (.ref D) = some (.type "type")) (ss : PySem.W.subIn K (.ref D) (.ref D) = some true) (sb : PySem.W.subIn K (.ref C) (.ref D) = some b) : PySem.W.kitOne K (.ref C) (.ref D) = some b := by
  unfold PySem.W.kitOne
  split
  · rename_i h
    have e : C = D := Value.ref.inj (beq_iff_eq.mp h)
    subst e
    exact ss.symm.trans sb
  · obtain ⟨cd, hc, _⟩ := PySem.W.any_some hd
    have e2 : ((PySem.W.clsIn K D).isSome && PySem.W.typeIn K (.ref D) == some (.type "type")) = true := by rw [hc, ty] <;> rfl
    show (if ((PySem.W.clsIn K D).isSome && PySem.W.typeIn K (.ref D) == some (.type "type")) = true then PySem.W.subIn K (.ref C) (.ref D) else none) = some b
    rw [if_pos e2]
    exact sb
theorem kit_mkV {K : PySem.W.Frag} {C : Addr} {b : Bool} (sb : PySem.W.subIn K (.ref C) (.type "ValueError") = some b) : PySem.W.kitOne K (.ref C) (.type "ValueError") = some b := by
  unfold PySem.W.kitOne
  rw [if_neg (by intro h; cases (beq_iff_eq.mp h))]
  show (if PySem.W.kitMeta "ValueError" = true then PySem.W.subIn K (.ref C) (.type "ValueError") else none) = some b
  rw [if_pos (by decide +kernel)]
  exact sb
end VL

namespace VL
open PySem PySem.Spec PyProof.Rows L2
/-! ## sorted lists of tuples of ints (of any lengths, none empty) -/
def lxB : List Int → List Int → Bool
  | [], [] => false
  | [], _ :: _ => true
  | _ :: _, [] => false
  | a :: as, b :: bs => if a = b then lxB as bs else decide (a < b)
theorem lxB_irr : ∀ a, lxB a a = false
  | [] => rfl
  | a :: as => by unfold lxB; rw [if_pos rfl]; exact lxB_irr as
theorem lxB_tri : ∀ a b, lxB a b = false → lxB b a = false → a = b
  | [], [], _, _ => rfl
  | [], _ :: _, h, _ => by cases h
  | _ :: _, [], _, h => by cases h
  | a :: as, b :: bs, h, k => by
    unfold lxB at h k
    by_cases e : a = b
    · rw [if_pos e] at h
      rw [if_pos e.symm] at k
      rw [e, lxB_tri as bs h k]
    · rw [if_neg e, decide_eq_false_iff_not] at h
      rw [if_neg (Ne.symm e), decide_eq_false_iff_not] at k
      omega
theorem lxB_asym : ∀ a b, lxB a b = true → lxB b a = false
  | [], [], h => by cases h
  | [], _ :: _, _ => rfl
  | _ :: _, [], h => by cases h
  | a :: as, b :: bs, h => by
    unfold lxB at h ⊢
    by_cases e : a = b
    · rw [if_pos e] at h
      rw [if_pos e.symm]
      exact lxB_asym as bs h
    · rw [if_neg e, decide_eq_true_eq] at h
      rw [if_neg (Ne.symm e), decide_eq_false_iff_not]
      omega
theorem lxB_tr : ∀ a b c, lxB b a = false → lxB c b = false → lxB c a = false
  | [], _, [], _, _ => rfl
  | [], _, _ :: _, _, _ => rfl
  | _ :: _, [], _, h, _ => by cases h
  | _ :: _, _ :: _, [], _, k => by cases k
  | a :: as, b :: bs, c :: cs, h, k => by
    unfold lxB at h k ⊢
    by_cases e1 : b = a
    · rw [if_pos e1] at h
      by_cases e2 : c = b
      · rw [if_pos e2] at k
        rw [if_pos (e2.trans e1)]
        exact lxB_tr as bs cs h k
      · rw [if_neg e2, decide_eq_false_iff_not] at k
        rw [if_neg (fun z => e2 (z.trans e1.symm)), decide_eq_false_iff_not]
        omega
    · rw [if_neg e1, decide_eq_false_iff_not] at h
      by_cases e2 : c = b
      · rw [if_neg (fun z => e1 (e2.symm.trans z)), decide_eq_false_iff_not]
        omega
      · rw [if_neg e2, decide_eq_false_iff_not] at k
        by_cases e3 : c = a
        · omega
        · rw [if_neg e3, decide_eq_false_iff_not]
          omega
theorem swo_lx {α : Type} (k : α → List Int) : SrtO.Swo fun x y => lxB (k x) (k y) := ⟨fun x y => lxB_asym _ _, fun x y z h1 h2 => lxB_tr _ _ _ h1 h2⟩
/-- the comparison within the sort -/
def lxZ (z : Bool) : List Int → List Int → Bool
  | a :: as, b :: bs => if a = b then lxZ z as bs else decide (a < b)
  | _, _ => z
theorem lxZ_eq : ∀ as bs : List Int, lxZ (decide (as.length < bs.length)) as bs = lxB as bs := by
  have key : ∀ (as bs : List Int) (n : Nat), lxZ (decide (n + as.length < n + bs.length)) as bs = lxB as bs := by
    intro as
    induction as with
    | nil =>
      intro bs n
      cases bs with
      | nil => show decide _ = false; exact decide_eq_false (by simp)
      | cons b bs => show decide _ = true; exact decide_eq_true (by simp)
    | cons a as ih =>
      intro bs n
      cases bs with
      | nil => show decide _ = false; exact decide_eq_false (by simp)
      | cons b bs =>
        unfold lxZ lxB
        by_cases e : a = b
        · rw [if_pos e, if_pos e, ← ih bs (n + 1)]
          congr 1
          refine decide_eq_decide.mpr ?_
          rw [List.length_cons, List.length_cons]
          omega
        · rw [if_neg e, if_neg e]
  intro as bs
  have := key as bs 0
  simpa using this
section
variable {prog : Program} {w : World} {A : Around} {s : Shared}
theorem lex_any {b z : Bool} {Q : Bool → Shared → Prop} : ∀ {ns ms : List Int} {xs ys : List Value} (i : Nat), IntsAre xs ns → IntsAre ys ms → Q (lxZ z ns ms) s → PySem.W.KatLex prog w A b z Q (xs.zip ys) i s := by
  intro ns ms xs ys i hx
  induction hx generalizing ys ms i with
  | nil =>
    intro hy h
    exact PySem.W.kat_nil h
  | @cons p t xs ns hx ih =>
    intro hy h
    cases hy with
    | nil => exact PySem.W.kat_nil h
    | @cons q u ys ms hy =>
      show PySem.W.KatLex prog w A b z Q ((Value.int p t, Value.int q u) :: xs.zip ys) i s
      refine PySem.W.kat_cons (wpAny_eqBool_int ?_)
      unfold lxZ at h
      by_cases e : p = q
      · subst e
        rw [beq_self_eq_true]
        rw [if_pos rfl] at h
        exact PySem.W.kat_yes (ih (i + 1) hy h)
      · rw [show (p == q) = false from beq_eq_false_iff_ne.mpr e]
        rw [if_neg e] at h
        exact PySem.W.kat_no (TS.oneLt_ints _ h)
theorem tup_cmp {vs : List Value} {k : Value → List Int} (hp : ∀ v ∈ vs, TS.TupInts s.heap v (k v)) : SrtO.Cmp prog w A s (tuples' true) (fun p => p.1 ∈ vs) (SrtO.lt2 fun v u => lxB (k v) (k u)) := by
  intro p q hm hm'
  have h1 := hp _ hm
  have h2 := hp _ hm'
  show wpAny (model prog w) A (keyLt' (tuples' true) p.1 q.1) (fun r s' => s' = s ∧ r = lxB (k p.1) (k q.1)) (fun _ _ => False) s
  generalize k p.1 = ns at h1 ⊢
  generalize k q.1 = ms at h2 ⊢
  obtain ⟨a, xs, e1, ⟨o, ho, hc, n, hdt⟩, i⟩ := h1
  obtain ⟨a', ys, e2, ⟨o', ho', hc', n', hdt'⟩, i'⟩ := h2
  rw [e1, e2]
  refine PySem.W.kat_lt ho hdt ho' hdt' (lex_any 0 i i' ⟨rfl, ?_⟩)
  have l1 := i.length
  have l2 := i'.length
  rw [Array.length_toList] at l1 l2
  rw [l1, l2]
  exact lxZ_eq ns ms
theorem firsts_any {h : Heap} : ∀ {vs : List Value}, (∀ v ∈ vs, ∃ ns, TS.TupInts h v ns ∧ ns ≠ []) → ∃ fs : List Value, PySem.W.KatTups h vs fs ∧ fs.length = vs.length ∧ ∀ f ∈ fs, ∃ x t, f = Value.int x t
  | [], _ => ⟨[], PySem.W.KatTups.nil, rfl, fun _ hm => by simp at hm⟩
  | v :: vs, hp => by
    obtain ⟨fs, k, hl, hi⟩ := firsts_any (vs := vs) fun u hu => hp u (List.mem_cons_of_mem _ hu)
    obtain ⟨ns, ⟨a, xs, rfl, ⟨o, ho, hc, n, hdt⟩, i⟩, hn⟩ := hp v (List.mem_cons_self ..)
    obtain ⟨y, ys, e⟩ : ∃ y ys, xs.toList = y :: ys := by
      cases q : xs.toList with
      | nil =>
        rw [q] at i
        have l := i.length
        rw [List.length_nil] at l
        exact absurd (List.length_eq_zero_iff.mp l.symm) hn
      | cons y ys => exact ⟨y, ys, rfl⟩
    obtain ⟨m, t, hy⟩ := i.all y (by rw [e]; exact List.mem_cons_self ..)
    refine ⟨y :: fs, PySem.W.KatTups.cons ho hc hdt ?_ k, by simp [hl], ?_⟩
    · have z := congrArg (fun l : List Value => l[0]?) e
      simpa using z
    · intro f hf
      rcases List.mem_cons.mp hf with rfl | hf
      · exact ⟨m, t, hy⟩
      · exact hi f hf
theorem tups_sortable {a : Addr} {vs : List Value} {k : Value → List Int} (h0 : 0 < vs.length) (hp : ∀ v ∈ vs, TS.TupInts s.heap v (k v) ∧ k v ≠ []) (ha : ∀ o, s.heap.get? a = some o → o.cls ≠ .type "tuple") : SrtO.SortableO prog w A s a vs fun v u => lxB (k v) (k u) := by
  intro h' keep
  have hp' : ∀ v ∈ vs, TS.TupInts h' v (k v) ∧ k v ≠ [] := fun v hm => ⟨(hp v hm).1.keeps fun b o e c => keep b o (fun z => by subst z; exact ha o e c) e, (hp v hm).2⟩
  obtain ⟨fs, h1, h2, h3⟩ := firsts_any fun v hm => ⟨_, hp' v hm⟩
  refine ⟨tuples' true, fun Q E hq => ?_, tup_cmp fun v hm => (hp' v hm).1⟩
  refine PySem.W.kat_kind (T := .type "int") h1 (by omega) (fun f hm => ?_) (by rfl) ?_
  · obtain ⟨x, t, rfl⟩ := h3 f hm
    exact PySem.W.Looks.now
  · have e : (Value.type "int" != Value.type "tuple") = true := by first | decide +kernel | rfl | decide
    rw [e]
    exact hq
theorem sorted_tupsO {l : Addr} {vs : List Value} {k : Value → List Int} {Q : Value → Shared → Prop} {E : Value → Shared → Prop} (hl : s.heap.IsList l vs.toArray) (hz : vs.length ≤ sizeLine) (hp : ∀ v ∈ vs, TS.TupInts s.heap v (k v)) (hne : 2 ≤ vs.length → ∀ v ∈ vs, k v ≠ [])
    (h : ∀ (h' : Heap) (d : Addr) (out : List Value), SrtO.Srtd (fun v u => lxB (k v) (k u)) out → SrtO.Stb (fun v u => lxB (k v) (k u)) out vs → (∀ b o, s.heap.get? b = some o → h'.get? b = some o) → s.heap.objs.size ≤ d → (∃ n, h'.get? d = some (seqObj "list" out.toArray n)) → Q (.ref d) { s with heap := h' }) :
    wpAny (model prog w) A (call (.builtin "sorted") [.ref l]) Q E s := by
  refine SrtO.sorted_ord (swo_lx k) hl hz (fun h2 h₁ a ha kk => ?_) fun out hs hb => ?_
  · refine tups_sortable (s := { s with heap := h₁ }) (by omega) (fun v hm => ⟨(hp v hm).keeps fun b o e _ => (kk b o e).2, hne h2 v hm⟩) fun o e => ?_
    have e' : some o = some (seqObj "list" vs.toArray 0) := e.symm.trans ha
    cases e'
    intro c
    exact absurd (Value.type.inj c) (by decide)
  · exact h _ _ out hs hb (fun b o e => sortedAll_old e) (Nat.le_succ _) (sortedAll_at s.heap vs out.toArray)
end
/-- sorted(xs), xs a list of tuples of ints, none of them empty -/
def rSortedLT (K : PySem.W.Frag) : List V → Hp → VK → Prop := fun vs H Q => ∃ (a : Addr) (xs : List V) (k : V → List Int), vs = [V.ref a] ∧ SqL K H a xs ∧ (∀ x ∈ xs, ∃ t, x = V.ref t ∧ SqT K H t ((k x).map V.int)) ∧ (2 ≤ xs.length → ∀ x ∈ xs, k x ≠ []) ∧
  ∀ ys p, SrtO.Srtd (fun x y => lxB (k x) (k y)) ys → SrtO.Stb (fun x y => lxB (k x) (k y)) ys xs → H p = none → Q (.ref p) (upd H p (.lst ys))
theorem ints_are : ∀ {ns : List Int} {us : List Value}, Vals (ns.map V.int) us → IntsAre us ns
  | [], _, .nil => .nil
  | n :: ns, _, .cons r rs => by
    obtain ⟨t, rfl⟩ := r
    exact .cons n t (ints_are rs)
theorem cr_sortedLT {X : Cx} : CallR X (.builtin "sorted") (rSortedLT X.K) := by
  intro pins s σ H vs us Q I r h
  obtain ⟨a, xs, k, rfl, hs, hx, hne, q⟩ := h
  obtain ⟨its, rv, hl, hz⟩ := I.list hs
  obtain ⟨u, rfl, ru⟩ := vals1 r
  obtain rfl : u = Value.ref a := ru
  obtain ⟨e1, e2⟩ := refs_back rv fun x m => by
    obtain ⟨t, e, _⟩ := hx x m
    exact ⟨t, e⟩
  refine sorted_tupsO (k := fun u => k (backV u)) hl.isList (by rw [← rv.length]; exact hz) (fun v hv => ?_) (fun h2 v hv => ?_) fun h' d out h1 h2 kp hd hn => ?_
  · obtain ⟨t, rfl⟩ := e2 v hv
    have hm : V.ref t ∈ xs := by rw [e1]; exact List.mem_map.mpr ⟨_, hv, rfl⟩
    obtain ⟨t', e, ht⟩ := hx _ hm
    cases e
    obtain ⟨its2, r2, hT, _⟩ := I.tuple ht
    exact ⟨t, its2.toArray, rfl, hT, by
      have z := ints_are r2
      show IntsAre its2.toArray.toList (k (V.ref t))
      simpa using z⟩
  · obtain ⟨t, rfl⟩ := e2 v hv
    exact hne (by rw [rv.length]; exact h2) _ (by rw [e1]; exact List.mem_map.mpr ⟨_, hv, rfl⟩)
  · have h3 : ∀ u ∈ out, ∃ a, u = Value.ref a := fun u hu => e2 u (h2.perm.mem_iff.mp hu)
    obtain ⟨n, hn⟩ := hn
    have hb : SrtO.Stb (fun x y => lxB (k x) (k y)) (out.map backV) xs := by
      rw [e1]
      exact SrtO.Stb.map (swo_lx k) backV h2
    refine ⟨.ref d, upd H d (.lst (out.map backV)), I.laid (t' := s.toks) kp hd ⟨?_, out, n, vals_back h3, hn⟩, rfl, q _ d (SrtO.srtd_map h1) hb (I.hok.fresh hd)⟩
    rw [hb.len]
    exact hz
/-- a tuple of these ints -/
def TupR (K : PySem.W.Frag) (H : Hp) (x : V) (ns : List Int) : Prop := ∃ t, x = V.ref t ∧ SqT K H t (ns.map V.int)
/-- and no dict of its own -/
def TupN (K : PySem.W.Frag) (H : Hp) (x : V) (ns : List Int) : Prop := ∃ t, x = V.ref t ∧ SqN K H t (ns.map V.int)
def rSortedRows (K : PySem.W.Frag) : List V → Hp → VK → Prop := fun vs H Q => ∃ (a : Addr) (xs : List V) (rows : List (List Int)) (P : V → List Int → Prop), vs = [V.ref a] ∧ SqL K H a xs ∧ (∀ x ns, P x ns → TupR K H x ns) ∧ Paired P xs rows ∧ (2 ≤ rows.length → ∀ r ∈ rows, r ≠ []) ∧
  ∀ (ys : List V) (rows' : List (List Int)) p, Paired P ys rows' → rows'.Pairwise (fun a b => lxB b a = false) → rows'.Perm rows → H p = none → Q (.ref p) (upd H p (.lst ys))
theorem int_inj : ∀ {a b : List Int}, a.map V.int = b.map V.int → a = b
  | [], [], _ => rfl
  | [], _ :: _, h => by cases h
  | _ :: _, [], h => by cases h
  | a :: as, b :: bs, h => by
    rw [List.map_cons, List.map_cons] at h
    injection h with h1 h2
    injection h1 with h1
    rw [h1, int_inj h2]
theorem cr_sortedRows {X : Cx} : CallR X (.builtin "sorted") (rSortedRows X.K) := by
  intro pins s σ H vs us Q I r h
  obtain ⟨a, xs, rows, P, rfl, hs, hT, hp, hne, q⟩ := h
  obtain ⟨k, hk⟩ : ∃ k : V → List Int, ∀ x ns, TupR X.K H x ns → k x = ns := by
    classical
    refine ⟨fun x => if h : ∃ ns, TupR X.K H x ns then Classical.choose h else [], fun x ns hx => ?_⟩
    have hex : ∃ ns, TupR X.K H x ns := ⟨ns, hx⟩
    have e := Classical.choose_spec hex
    simp only [dif_pos hex]
    generalize Classical.choose hex = ms at e ⊢
    obtain ⟨t, e1, h1⟩ := e
    obtain ⟨t', e2, h2⟩ := hx
    rw [e1] at e2
    cases e2
    exact int_inj (I.tuple_inj h1 h2)
  have km : ∀ {xs : List V} {rows : List (List Int)}, Paired P xs rows → xs.map k = rows ∧ ∀ x ∈ xs, P x (k x) := by
    intro xs rows hp
    induction hp with
    | nil => exact ⟨rfl, fun x hx => by cases hx⟩
    | @cons x ns xs rows h1 _ ih =>
      have e := hk x ns (hT x ns h1)
      refine ⟨by rw [List.map_cons, e, ih.1], fun y hy => ?_⟩
      rcases List.mem_cons.mp hy with rfl | hy
      · rw [e]; exact h1
      · exact ih.2 y hy
  obtain ⟨k1, k2⟩ := km hp
  refine cr_sortedLT pins s σ H _ us Q I r ⟨a, xs, k, rfl, hs, fun x hx => hT _ _ (k2 x hx), fun h2 x hx => hne (by rw [← k1, List.length_map]; exact h2) _ (by rw [← k1]; exact List.mem_map_of_mem hx), fun ys p h1 h2 n => q ys (ys.map k) p ?_ (List.pairwise_map.mpr h1) ?_ n⟩
  · have : ∀ y ∈ ys, P y (k y) := fun y hy => k2 y (h2.perm.mem_iff.mp hy)
    clear h1 h2
    induction ys with
    | nil => exact .nil
    | cons y ys ih => exact .cons (this y List.mem_cons_self) (ih fun z hz => this z (List.mem_cons_of_mem _ hz))
  · rw [← k1]
    exact h2.perm.map k
def insT (x : List Int) : List (List Int) → List (List Int)
  | [] => [x]
  | y :: ys => if lxB y x = true then y :: insT x ys else x :: y :: ys
def isortT : List (List Int) → List (List Int)
  | [] => []
  | x :: xs => insT x (isortT xs)
theorem insT_perm (x : List Int) : ∀ ys, (insT x ys).Perm (x :: ys)
  | [] => .refl _
  | y :: ys => by
    unfold insT
    split
    · exact ((insT_perm x ys).cons y).trans (.swap x y ys)
    · exact .refl _
theorem isortT_perm : ∀ xs, (isortT xs).Perm xs
  | [] => .refl _
  | x :: xs => (insT_perm x _).trans ((isortT_perm xs).cons x)
theorem insT_sorted (x : List Int) : ∀ {ys : List (List Int)}, ys.Pairwise (fun a b => lxB b a = false) → (insT x ys).Pairwise (fun a b => lxB b a = false)
  | [], _ => by simp [insT]
  | y :: ys, h => by
    have h1 := List.pairwise_cons.mp h
    unfold insT
    split
    · rename_i c
      refine List.pairwise_cons.mpr ⟨fun z hz => ?_, insT_sorted x h1.2⟩
      rcases List.mem_cons.mp ((insT_perm x ys).mem_iff.mp hz) with rfl | hz
      · exact lxB_asym _ _ c
      · exact h1.1 z hz
    · rename_i c
      have c : lxB y x = false := by simpa using c
      refine List.pairwise_cons.mpr ⟨fun z hz => ?_, h⟩
      rcases List.mem_cons.mp hz with rfl | hz
      · exact c
      · exact lxB_tr _ _ _ c (h1.1 z hz)
theorem isortT_sorted : ∀ xs, (isortT xs).Pairwise (fun a b => lxB b a = false)
  | [] => .nil
  | x :: xs => insT_sorted x (isortT_sorted xs)
theorem sortedT_uniq : ∀ {xs ys : List (List Int)}, xs.Perm ys → xs.Pairwise (fun a b => lxB b a = false) → ys.Pairwise (fun a b => lxB b a = false) → xs = ys
  | [], ys, p, _, _ => (List.Perm.nil_eq p)
  | x :: xs, [], p, _, _ => by have := p.length_eq; simp at this
  | x :: xs, y :: ys, p, h1, h2 => by
    have a1 := List.pairwise_cons.mp h1
    have a2 := List.pairwise_cons.mp h2
    have e : x = y := by
      rcases List.mem_cons.mp (p.mem_iff.mp List.mem_cons_self) with e | hx
      · exact e
      · rcases List.mem_cons.mp (p.mem_iff.mpr List.mem_cons_self) with e | hy
        · exact e.symm
        · exact lxB_tri x y (a2.1 x hx) (a1.1 y hy)
    subst e
    rw [sortedT_uniq p.cons_inv a1.2 a2.2]
def tupsI : List PyData → Option (List (List Int))
  | [] => some []
  | .tuple xs :: r => (intsD xs).bind fun ns => (tupsI r).map (ns :: ·)
  | _ => none
theorem tups_ok {K : PySem.W.Frag} {F : Hp} : ∀ {xs : List PyData} {vs : List V} {rows : List (List Int)}, DqA K F vs xs → tupsI xs = some rows → Paired (TupN K F) vs rows
  | [], _, _, h, e => by cases h; cases e; exact .nil
  | x :: xs, _, rows, h, e => by
    cases h with
    | cons h1 h2 =>
      cases x with
      | tuple ds =>
        unfold tupsI at e
        cases e1 : intsD ds with
        | none => rw [e1] at e; cases e
        | some ns =>
          rw [e1] at e
          simp only [Option.bind_some] at e
          obtain ⟨r, e2, e3⟩ := Option.map_eq_some_iff.mp e
          subst e3
          cases h1 with
          | tup q1 q2 =>
            have := ints_ok q2 e1
            subst this
            exact .cons ⟨_, rfl, q1⟩ (tups_ok h2 e2)
      | _ => cases e
theorem tups_dq {K : PySem.W.Frag} {F : Hp} : ∀ {vs : List V} {rows : List (List Int)}, Paired (TupN K F) vs rows → DqA K F vs (rows.map fun r => .tuple (r.map .int))
  | _, _, .nil => .nil
  | _, _, .cons ⟨t, e, h⟩ r => by
    subst e
    exact .cons (.tup h (DqA.of_ints _)) (tups_dq r)
def gSortedT : List RV → Rs RV
  | [r] => (rsO r.qv).bind fun xs => (rsO (tupsI xs)).bind fun rows => if rows.length < 2 ∨ rows.all (fun r => !r.isEmpty) = true then .ok (.ol ((isortT rows).map fun r => .tuple (r.map .int))) else .no
  | _ => .no
theorem e_sortedT (r : RV) : gSortedT [r] = (rsO r.qv).bind fun xs => (rsO (tupsI xs)).bind fun rows => if rows.length < 2 ∨ rows.all (fun r => !r.isEmpty) = true then .ok (.ol ((isortT rows).map fun r => .tuple (r.map .int))) else .no := rfl
theorem c_sortedT {K : PySem.W.Frag} {ca : CA} : CaS K ca (rSortedRows K) gSortedT := by
  intro W σ F0 H0 F H vs as Q gr h p
  unfold gSortedT at p
  split at p
  · rename_i r
    obtain ⟨v, rfl, hx⟩ := pr1 h
    cases e : r.qv with
    | none => rw [e] at p; exact p.elim
    | some xs =>
      rw [e] at p
      simp only [rsO_some, Rs.bind_ok] at p
      cases e2 : tupsI xs with
      | none => rw [e2] at p; exact p.elim
      | some rows =>
        rw [e2] at p
        simp only [rsO_some, Rs.bind_ok] at p
        by_cases hc : rows.length < 2 ∨ rows.all (fun r => !r.isEmpty) = true
        rotate_left
        · rw [if_neg hc] at p; exact p.elim
        rw [if_pos hc] at p
        obtain ⟨q, ws, rfl, hq, dq⟩ := qv_ok gr.cfg.sub hx e
        refine ⟨q, ws, rows, TupN K F, rfl, hq, fun x ns ⟨t, e3, h3⟩ => ⟨t, e3, same_seqT gr.cfg.sub h3.1⟩, tups_ok dq e2, fun h2 r hr => ?_, fun ys rows' l py so pm hl => ?_⟩
        · rcases hc with hc | hc
          · omega
          · have := (List.all_eq_true.mp hc) r hr
            intro z
            rw [z] at this
            cases this
        have e3 : rows' = isortT rows := sortedT_uniq (pm.trans (isortT_perm rows).symm) so (isortT_sorted rows)
        subst e3
        have g2 := Grow.newO gr.cfg (.lst ys) hl (fun _ z => by cases z)
        exact p _ _ _ (gr.trans g2) ⟨l, _, rfl, none_n gr.hh hl, same_none gr.cfg.sub hl, upd_same, tups_dq py⟩
  · exact p.elim
end VL

namespace VL
open PySem PySem.Spec PyProof.Rows L2
/-! ## a comprehension with two fors -/
def Aw (H1 : Hp) (env : VEnv) (σ : L2.St) (D : Addr) : Prop := ∀ (i : Nat) (r : RV) (p : Addr), env[i]? = some (some r) → r.own = true → σ[i]? = some (some (.ref p)) → p ≠ D ∧ ∀ (me : Bool) (x : Str) (fs : List (Str × FV)), r = .ob me x fs → ∃ C dx vs, H1 p = some (.ins C dx vs) ∧ D ∉ lad vs fs
theorem StOk.away {K : PySem.W.Frag} {B : Base} {F H H1 : Hp} {env : VEnv} {σ : L2.St} {D : Addr} {acc acc' : List V} (st : StOk K ca B F env σ H) (sH : SameN H1 H) (aw' : Aw H1 env σ D)
    (n0 : B.H D = none) (f0 : F D = none) (hD : H D = some (.lst acc)) : StOk K ca B F env σ (upd H D (.lst acc')) := by
  have aw : ∀ (i : Nat) (r : RV) (p : Addr), env[i]? = some (some r) → r.own = true → σ[i]? = some (some (.ref p)) → p ≠ D := fun i r p e o z => (aw' i r p e o z).1
  have obq : ∀ {j : Nat} {a : Addr} {me : Bool} {x : Str} {fs : List (Str × FV)}, env[j]? = some (some (.ob me x fs)) → σ[j]? = some (some (.ref a)) → D ∉ fla H a fs := fun {j a me x fs} ej sj => by
    obtain ⟨C, dx, vs, h1, h2⟩ := (aw' j _ a ej rfl sj).2 me x fs rfl
    rw [fla_eq fs (sH _ _ h1)]
    exact h2
  have boq : ∀ {j : Nat} {a : Addr} {x : Str} {fs : List (Str × FV)}, env[j]? = some (some (.bo x fs)) → σ[j]? = some (some (.ref a)) → D ∉ fla H a fs := fun {j a x fs} ej sj hq => by
    obtain ⟨o, ho⟩ := st.rg.o3 j a D x fs ej sj hq
    rw [n0] at ho; cases ho
  have bop : ∀ {j : Nat} {a : Addr} {x : Str} {fs : List (Str × FV)}, env[j]? = some (some (.bo x fs)) → σ[j]? = some (some (.ref a)) → a ≠ D := fun {j a x fs} ej sj z => by
    obtain ⟨o, ho⟩ := st.bo j _ a ej rfl sj
    rw [z, n0] at ho; cases ho
  refine ⟨st.gr.write n0 f0 hD (fun _ z => by cases z), st.len, fun i r e => ?_, st.bo, st.dis, st.rgTo (st.rg.tb.aside hD (fun ps z => by cases z)) fun i p C dx vs r e z o hi => upd_ne fun w => by rw [w, hD] at hi; cases hi⟩
  obtain ⟨v, e1, q⟩ := st.sl i r e
  refine ⟨v, e1, ?_⟩
  cases r with
  | d x => exact q
  | ol xs => obtain ⟨p, vs, ep, a1, a2, hp, a3⟩ := q; subst ep; exact ⟨p, vs, rfl, a1, a2, by rw [upd_ne (aw i _ p e rfl e1)]; exact hp, a3⟩
  | od xs => obtain ⟨p, vs, ep, a1, a2, hp, a3⟩ := q; subst ep; exact ⟨p, vs, rfl, a1, a2, by rw [upd_ne (aw i _ p e rfl e1)]; exact hp, a3⟩
  | ot xs => obtain ⟨p, vs, ep, a1, a2, hp, a3⟩ := q; subst ep; exact ⟨p, vs, rfl, a1, a2, by rw [upd_ne (aw i _ p e rfl e1)]; exact hp, a3⟩
  | bl xs =>
    obtain ⟨p, vs, ep, hp, a3⟩ := q; subst ep
    obtain ⟨o, ho⟩ := st.bo i _ p e rfl e1
    exact ⟨p, vs, rfl, by rw [upd_ne (ne_of_none ho n0)]; exact hp, a3⟩
  | bd xs =>
    obtain ⟨p, vs, ep, hp, a3⟩ := q; subst ep
    obtain ⟨o, ho⟩ := st.bo i _ p e rfl e1
    exact ⟨p, vs, rfl, hp.imp (fun w => by rw [upd_ne (ne_of_none ho n0)]; exact w) (fun ⟨o, w⟩ => ⟨o, by rw [upd_ne (ne_of_none ho n0)]; exact w⟩), a3⟩
  | bt xs =>
    obtain ⟨p, vs, ep, hp, a3⟩ := q; subst ep
    obtain ⟨o, ho⟩ := st.bo i _ p e rfl e1
    exact ⟨p, vs, rfl, by rw [upd_ne (ne_of_none ho n0)]; exact hp, a3⟩
  | sc ns => exact q
  | t3 x ys kvs => exact t3_mono (Same.refl _) q
  | fd kvs => exact fd_mono (Same.refl _) q
  | ob me x fs => obtain ⟨a, z, h4⟩ := q; subst z; exact ⟨a, rfl, h4.aside (aw i _ a e rfl e1) (obq e e1)⟩
  | bo x fs => obtain ⟨a, z, h4⟩ := q; subst z; exact ⟨a, rfl, h4.aside (bop e e1) (boq e e1)⟩
  | xo a dd c fs =>
    obtain ⟨ea, xs, hp, a3⟩ := q
    refine ⟨ea, xs, ?_, a3⟩
    have : dd ≠ D := fun z => by subst z; rw [hD] at hp; cases hp
    rw [upd_ne this]; exact hp
theorem tgEs_own : ∀ {is : List Nat} {xs : List PyData} {env env' : VEnv}, tgEs is xs env = some env' → ∀ (i : Nat) (r : RV), env'[i]? = some (some r) → r.own = true → i ∉ is ∧ env[i]? = some (some r)
  | [], [], env, env', e, i, r, ei, _ => by cases e; exact ⟨by simp, ei⟩
  | [], _ :: _, env, env', e, i, r, ei, _ => by cases e
  | _ :: _, [], env, env', e, i, r, ei, _ => by cases e
  | j :: is, x :: xs, env, env', e, i, r, ei, o => by
    unfold tgEs at e
    split at e
    · rename_i hj
      obtain ⟨h1, h2⟩ := tgEs_own e i r ei o
      by_cases h : j = i
      · subst h
        rw [List.getElem?_set_self hj] at h2
        cases h2
        cases o
      · rw [List.getElem?_set_ne h] at h2
        exact ⟨by simp only [List.mem_cons, not_or]; exact ⟨fun z => h z.symm, h1⟩, h2⟩
    · cases e
theorem tgE_own {tg : Tg} {x : PyData} {env env' : VEnv} (e : tgE tg x env = some env') {i : Nat} {r : RV} (ei : env'[i]? = some (some r)) (o : r.own = true) : i ∉ tgIx tg ∧ env[i]? = some (some r) := by
  cases tg with
  | nm j =>
    by_cases hj : j < env.length
    · have e' : some (env.set j (some (.d x))) = some env' := by simpa [tgE, hj] using e
      cases e'
      by_cases h : j = i
      · subst h
        rw [List.getElem?_set_self hj] at ei
        cases ei
        cases o
      · rw [List.getElem?_set_ne h] at ei
        exact ⟨by simp [tgIx]; exact fun z => h z.symm, ei⟩
    · have e' : (none : Option VEnv) = some env' := by simpa [tgE, hj] using e
      cases e'
  | tp is =>
    cases x with
    | tuple xs => exact tgEs_own e i r ei o
    | _ => cases e
theorem tgSt_get {tg : Tg} {v : V} {vs : List V} {σ : L2.St} {i : Nat} (h : i ∉ tgIx tg) : (tgSt tg v vs σ)[i]? = σ[i]? := by
  cases tg with
  | nm j => show (σ.set j _)[i]? = _; rw [List.getElem?_set_ne (fun z => h (by subst z; simp [tgIx]))]
  | tp is => exact setAll_get is vs σ i h
theorem aw_tg {tg : Tg} {x : PyData} {v : V} {vs : List V} {env env' : VEnv} {σ : L2.St} {D : Addr} {H1 : Hp} (h : Aw H1 env σ D) (e : tgE tg x env = some env') : Aw H1 env' (tgSt tg v vs σ) D := fun i r p ei o es => by
  obtain ⟨h1, h2⟩ := tgE_own e ei o
  rw [tgSt_get h1] at es
  exact h i r p h2 o es
theorem aw_drop {env : VEnv} {σ : L2.St} {D : Addr} {H1 : Hp} (h : Aw H1 env σ D) (j : Nat) : Aw H1 (env.set j none) (σ.set j none) D := fun i r p ei o es => by
  by_cases hj : j = i
  · subst hj
    by_cases hl : j < env.length
    · rw [List.getElem?_set_self hl] at ei; cases ei
    · rw [List.getElem?_eq_none (by simpa using hl)] at ei; cases ei
  · rw [List.getElem?_set_ne hj] at ei es
    exact h i r p ei o es
theorem aw_wipe {env : VEnv} {σ : L2.St} {D : Addr} {H1 : Hp} (h : Aw H1 env σ D) : ∀ own : List Nat, Aw H1 (wipeE env own) (wipe σ own) D
  | [] => h
  | j :: own => aw_drop (aw_wipe h own) j
theorem StOk.aw0 {K : PySem.W.Frag} {B : Base} {F H : Hp} {env : VEnv} {σ : L2.St} {D : Addr} (st : StOk K ca B F env σ H) (n : H D = none) : Aw H env σ D := fun i r p ei o es => by
  obtain ⟨v, e1, q⟩ := st.sl i r ei
  rw [es] at e1
  cases e1
  refine ⟨fun z => ?_, fun me x fs er => ?_⟩
  · obtain ⟨_, _, u, hp⟩ := own_some o q
    rw [z, n] at hp; cases hp
  · subst er
    have h := st.obAt ei es
    obtain ⟨C, dx, vs, hi⟩ := h.ins
    refine ⟨C, dx, vs, hi, fun hD => ?_⟩
    rw [← fla_eq fs hi] at hD
    obtain ⟨_, _, ws, hl⟩ := h.at hD
    rw [n] at hl; cases hl
def lc2F (tg : Tg) (t : VEnv → Rs Bool) (src1 : VEnv → Rs (List PyData)) (own1 : List Nat) (tg1 : Tg) (t1 : VEnv → Rs Bool) (fe : VEnv → Rs RV) (env : VEnv) : List PyData → Rs (List PyData)
  | [] => .ok []
  | x :: xs => match tgE tg x env with
    | none => .no
    | some e1 => match t e1 with
      | .ok true => (match src1 e1 with
        | .ok ys => (match lcF tg1 t1 fe (wipeE e1 own1) ys with
          | .ok rs => (match lc2F tg t src1 own1 tg1 t1 fe env xs with
            | .ok rs' => .ok (rs ++ rs')
            | _ => .no)
          | _ => .no)
        | _ => .no)
      | .ok false => lc2F tg t src1 own1 tg1 t1 fe env xs
      | _ => .no
def cLc2 (src : VEnv → Rs (List PyData)) (own : List Nat) (tg : Tg) (t : VEnv → Rs Bool) (src1 : VEnv → Rs (List PyData)) (own1 : List Nat) (tg1 : Tg) (t1 : VEnv → Rs Bool) (fe : VEnv → Rs RV) : VEnv → Rs RV := fun env => (src env).bind fun xs => match lc2F tg t src1 own1 tg1 t1 fe (wipeE env own) xs with
  | .ok ds => if ds.length ≤ 1000000 then .ok (.ol ds) else .no
  | _ => .no
theorem snd_lc2 {K : PySem.W.Frag} {wi wi1 : TI} {tt tt1 : TT} {te : TE} {src src1 : VEnv → Rs (List PyData)} {own own1 : List Nat} {tg tg1 : Tg} {t t1 : VEnv → Rs Bool} {fe : VEnv → Rs RV} (ho : ∀ i ∈ tgIx tg, i ∈ own) (ho1 : ∀ i ∈ tgIx tg1, i ∈ own1) (si : SndJ K ca W wi src) (s1 : SndT K ca W0 tt t)
    (si1 : SndI K ca W0 wi1 src1) (s3 : SndT K ca W0 tt1 t1) (s2 : SndE K ca W0 te fe) :
    SndE K ca W (tLc2 wi (tgT K tg) tt wi1 (tgT K tg1) tt1 te own own1) (cLc2 src own tg t src1 own1 tg1 t1 fe) := by
  intro B F env σ H Q st p
  refine si B F env σ H _ st ?_
  unfold cLc2 at p
  cases e : src env with
  | no => rw [e] at p; exact p
  | ex c fs => rw [e] at p; exact p
  | ok xs =>
    rw [e] at p
    simp only [Rs.bind_ok] at p
    cases e2 : lc2F tg t src1 own1 tg1 t1 fe (wipeE env own) xs with
    | no => rw [e2] at p; exact p.elim
    | ex c fs => rw [e2] at p; exact p.elim
    | ok res =>
      rw [e2] at p
      simp only at p
      split at p
      · rename_i hz
        intro J F1 H1 vs g1 d1 jw D nD
        have stw : StOk K ca B F1 (wipeE env own) (wipe σ own) H1 := wipe_ok (st.grow g1) own
        have fD : F1 D = none := same_none g1.cfg.sub nD
        have n0 : B.H D = none := none_n st.gr.hh (none_n g1.hh nD)
        have awD : Aw H1 (wipeE env own) (wipe σ own) D := stw.aw0 nD
        refine ⟨fun i m H => m = vs.length - i ∧ i ≤ vs.length ∧ ∃ F' acc ds rs, Grow F1 H1 F' H ∧ F' D = none ∧ H D = some (.lst acc) ∧ DqA K F' acc ds ∧ lc2F tg t src1 own1 tg1 t1 fe (wipeE env own) (xs.drop i) = .ok rs ∧ ds ++ rs = res,
          ⟨_, rfl, Nat.zero_le _, F1, [], [], res, Grow.newO g1.cfg _ nD (fun _ z => by cases z), fD, upd_same, .nil, e2, rfl⟩, ?_⟩
        rintro i m H2 ⟨rfl, hi, F2, acc, ds, rs, g2, f2, hD, q2, er, es⟩
        by_cases hlt : i < vs.length
        · obtain ⟨x, hx, qx⟩ := DqA.get' d1 (List.getElem?_eq_getElem hlt)
          rw [drop_cons hx] at er
          unfold lc2F at er
          refine .inr ⟨jw.go i H2 g2.hh hlt, fun H => i + 1 ≤ vs.length ∧ ∃ F' acc ds rs, Grow F1 H1 F' H ∧ F' D = none ∧ H D = some (.lst acc) ∧ DqA K F' acc ds ∧ lc2F tg t src1 own1 tg1 t1 fe (wipeE env own) (xs.drop (i + 1)) = .ok rs ∧ ds ++ rs = res,
            fun H' z => ⟨vs.length - (i + 1), by omega, rfl, z.1, z.2⟩, fun y H' hy => ?_⟩
          obtain ⟨rfl, e5⟩ := jw.yld i H2 y H' g2.hh hy hlt
          rw [List.getElem?_eq_getElem hlt] at e5
          cases e5
          cases e3 : tgE tg x (wipeE env own) with
          | none => rw [e3] at er; cases er
          | some env3 =>
            rw [e3] at er
            simp only at er
            refine snd_tg (stw.grow g2) (qx.mono g2.ff) e3 fun ws st3 => ⟨tgSt_wipe ho, ?_⟩
            have aw3 := aw_tg (v := vs[i]) (vs := ws) awD e3
            generalize tgSt tg vs[i] ws (wipe σ own) = σ3 at st3 aw3 ⊢
            refine s1 B F2 env3 _ _ _ st3 ?_
            cases e4 : t env3 with
            | no => rw [e4] at er; cases er
            | ex c fs => rw [e4] at er; cases er
            | ok b =>
              rw [e4] at er
              intro F4 H4 g4
              have f4 : F4 D = none := g4.stillFree f2 hD
              cases b with
              | false =>
                rw [if_neg Bool.false_ne_true]
                exact ⟨hlt, F4, acc, ds, rs, g2.trans g4, f4, g4.hh _ _ hD, DqA.mono g4.ff _ _ q2, er, es⟩
              | true =>
                rw [if_pos rfl]
                simp only at er
                refine si1 B F4 env3 _ H4 _ (st3.grow g4) ?_
                cases e6 : src1 env3 with
                | no => rw [e6] at er; cases er
                | ex c fs => rw [e6] at er; cases er
                | ok ys =>
                  rw [e6] at er
                  simp only at er
                  cases e7 : lcF tg1 t1 fe (wipeE env3 own1) ys with
                  | no => rw [e7] at er; cases er
                  | ex c fs => rw [e7] at er; cases er
                  | ok rs1 =>
                    rw [e7] at er
                    simp only at er
                    cases e8 : lc2F tg t src1 own1 tg1 t1 fe (wipeE env own) (xs.drop (i + 1)) with
                    | no => rw [e8] at er; cases er
                    | ex c fs => rw [e8] at er; cases er
                    | ok rs2 =>
                      rw [e8] at er
                      simp only [Rs.ok.injEq] at er
                      intro J1 F5 H5 us g5 d5 jw1
                      have f5 : F5 D = none := g5.stillFree f4 (g4.hh _ _ hD)
                      have st5 : StOk K ca B F5 (wipeE env3 own1) (wipe σ3 own1) H5 := wipe_ok ((st3.grow g4).grow g5) own1
                      have aw5 : Aw H1 (wipeE env3 own1) (wipe σ3 own1) D := aw_wipe aw3 own1
                      refine ⟨fun j k H => k = us.length - j ∧ j ≤ us.length ∧ ∃ F' acc ds rs, Grow F1 H1 F' H ∧ Same F5 F' ∧ StOk K ca B F' (wipeE env3 own1) (wipe σ3 own1) H ∧ F' D = none ∧ H D = some (.lst acc) ∧ DqA K F' acc ds ∧ lcF tg1 t1 fe (wipeE env3 own1) (ys.drop j) = .ok rs ∧ ds ++ rs ++ rs2 = res,
                        ⟨_, rfl, Nat.zero_le _, F5, acc, ds, rs1, (g2.trans g4).trans g5, Same.refl _, st5, f5, g5.hh _ _ (g4.hh _ _ hD), DqA.mono g5.ff _ _ (DqA.mono g4.ff _ _ q2), e7, by rw [List.append_assoc, er, es]⟩, ?_⟩
                      rintro j k H6 ⟨rfl, hj, F6, acc6, ds6, rs6, g6, s6, st6, f6, hD6, q6, er6, es6⟩
                      have s56 : Same F5 H6 := s6.trans g6.cfg.sub
                      by_cases hlj : j < us.length
                      · obtain ⟨y, hy', qy⟩ := DqA.get' d5 (List.getElem?_eq_getElem hlj)
                        rw [drop_cons hy'] at er6
                        unfold lcF at er6
                        refine .inr ⟨jw1.go j H6 s56.n hlj, fun H => j + 1 ≤ us.length ∧ ∃ F' acc ds rs, Grow F1 H1 F' H ∧ Same F5 F' ∧ StOk K ca B F' (wipeE env3 own1) (wipe σ3 own1) H ∧ F' D = none ∧ H D = some (.lst acc) ∧ DqA K F' acc ds ∧ lcF tg1 t1 fe (wipeE env3 own1) (ys.drop (j + 1)) = .ok rs ∧ ds ++ rs ++ rs2 = res,
                          fun H' z => ⟨us.length - (j + 1), by omega, rfl, z.1, z.2⟩, fun y' H7 hy7 => ?_⟩
                        obtain ⟨rfl, e9⟩ := jw1.yld j H6 y' H7 s56.n hy7 hlj
                        rw [List.getElem?_eq_getElem hlj] at e9
                        cases e9
                        cases e10 : tgE tg1 y (wipeE env3 own1) with
                        | none => rw [e10] at er6; cases er6
                        | some env7 =>
                          rw [e10] at er6
                          simp only at er6
                          refine snd_tg st6 (qy.mono s6) e10 fun ws1 st7 => ⟨tgSt_wipe ho1, ?_⟩
                          refine s3 B F6 env7 _ _ _ st7 ?_
                          cases e11 : t1 env7 with
                          | no => rw [e11] at er6; cases er6
                          | ex c fs => rw [e11] at er6; cases er6
                          | ok b =>
                            rw [e11] at er6
                            intro F8 H8 g8
                            have f8 : F8 D = none := g8.stillFree f6 hD6
                            cases b with
                            | false =>
                              rw [if_neg Bool.false_ne_true]
                              exact ⟨hlj, F8, acc6, ds6, rs6, g6.trans g8, s6.trans g8.ff, st6.grow g8, f8, g8.hh _ _ hD6, DqA.mono g8.ff _ _ q6, er6, es6⟩
                            | true =>
                              rw [if_pos rfl]
                              simp only at er6
                              refine s2 B F8 env7 _ H8 _ (st7.grow g8) ?_
                              cases e12 : fe env7 with
                              | no => rw [e12] at er6; cases er6
                              | ex c fs => rw [e12] at er6; cases er6
                              | ok r =>
                                rw [e12] at er6
                                simp only at er6
                                cases e13 : r.toD with
                                | none => rw [e13] at er6; cases er6
                                | some d =>
                                  rw [e13] at er6
                                  simp only at er6
                                  cases e14 : lcF tg1 t1 fe (wipeE env3 own1) (ys.drop (j + 1)) with
                                  | no => rw [e14] at er6; cases er6
                                  | ex c fs => rw [e14] at er6; cases er6
                                  | ok rs9 =>
                                    rw [e14] at er6
                                    simp at er6
                                    intro F9 H9 v9 g9 q9
                                    obtain ⟨F10, g10, s10, q10⟩ := frz g9 (Fz.of q9 e13)
                                    have g68 : Grow _ _ F10 H9 := g8.trans g10
                                    have h9 : H9 D = some (.lst acc6) := g10.hh _ _ (g8.hh _ _ hD6)
                                    have f10 : F10 D = none := g10.stillFree f8 (g8.hh _ _ hD6)
                                    have qa : DqA K F10 acc6 ds6 := DqA.mono g10.ff _ _ (DqA.mono g8.ff _ _ q6)
                                    have al : acc6.length = ds6.length := qa.length
                                    refine ⟨acc6, h9, million ?_, hlj, F10, acc6 ++ [v9], ds6 ++ [d], rs9, (g6.trans g68).write nD f10 h9 (fun _ z => by cases z), s6.trans g68.ff, (st6.grow g68).away (g6.trans g68).hh aw5 n0 f10 h9, f10, upd_same, qa.append (.cons q10 .nil), rfl, ?_⟩
                                    · have := congrArg List.length es6
                                      simp at this
                                      omega
                                    · rw [← es6, ← er6]
                                      simp
                      · have e15 : j = us.length := by omega
                        subst e15
                        rw [List.drop_eq_nil_of_le (by rw [d5.length]; exact Nat.le_refl _)] at er6
                        cases er6
                        rw [List.append_nil] at es6
                        exact .inl ⟨jw1.stop H6 s56.n, hlt, F6, acc6, ds6, rs2, g6, f6, hD6, q6, rfl, es6⟩
        · have e5 : i = vs.length := by omega
          subst e5
          rw [List.drop_eq_nil_of_le (by rw [d1.length]; exact Nat.le_refl _)] at er
          cases er
          rw [List.append_nil] at es
          subst es
          exact .inl ⟨jw.stop H2 g2.hh, p F2 H2 (.ref D) (g1.trans g2) ⟨D, acc, rfl, none_n g1.hh nD, f2, hD, q2⟩⟩
      · exact p.elim
def tUI (K : PySem.W.Frag) (ca : CA) (W : WX) (f : VEnv → Rs (List PyData)) : TI := fun σ H R => ∃ B F env, StOk K ca B F env σ H ∧ PostI K ca W σ F H R (f env)
theorem VI.pi {tg iter : Expr} {f : VEnv → Rs (List PyData)} (h : VI ca W X tg iter f) : PI X tg iter (tUI X.K ca W f) := by
  obtain ⟨t, p, s⟩ := h
  exact ⟨fun pins s0 σ H R I ⟨B, F, env, st, q⟩ => p.run pins s0 σ H R I (s B F env σ H R st q)⟩
theorem ve_lc2 {elt tg iter tg1 iter1 : Expr} {ifs ifs1 : List Expr} {scope : Scope} {own : List (Str × Nat)} {vs1 : List Nat} {src src1 : VEnv → Rs (List PyData)} {g g1 : Tg} {t t1 : VEnv → Rs Bool} {fe : VEnv → Rs RV} (hc : X.calm = true) (hN : X.N.Nodup) (hi : VJ ca W X tg iter src) (ok : BlkOk X.N X.env.scope scope own) (ho : ∀ i ∈ tgIx g, i ∈ own.map (·.2)) (hv : ∀ i ∈ vs1, i ∈ own.map (·.2)) (ho1 : ∀ i ∈ tgIx g1, i ∈ vs1)
    (hg : ∀ (s : Shared) (H : Hp) (C : Addr) (cl : List (Str × Addr)) (fp : List Addr), VG (X.blk s H scope (compEnvC scope cl C X.env) fp) tg g) (ht : ∀ (s : Shared) (H : Hp) (C : Addr) (cl : List (Str × Addr)) (fp : List Addr), VTs ca W0 (X.blk s H scope (compEnvC scope cl C X.env) fp) ifs t)
    (hi1 : ∀ (s : Shared) (H : Hp) (C : Addr) (cl : List (Str × Addr)) (fp : List Addr), VI ca W0 (X.blk s H scope (compEnvC scope cl C X.env) fp) tg1 iter1 src1)
    (hg1 : ∀ (s : Shared) (H : Hp) (C : Addr) (cl : List (Str × Addr)) (fp : List Addr), VG (X.blk s H scope (compEnvC scope cl C X.env) fp) tg1 g1) (ht1 : ∀ (s : Shared) (H : Hp) (C : Addr) (cl : List (Str × Addr)) (fp : List Addr), VTs ca W0 (X.blk s H scope (compEnvC scope cl C X.env) fp) ifs1 t1)
    (he : ∀ (s : Shared) (H : Hp) (C : Addr) (cl : List (Str × Addr)) (fp : List Addr), VE ca W0 (X.blk s H scope (compEnvC scope cl C X.env) fp) elt fe) (hs : ∀ x, foldedSetIterable iter X.env x = pure x := by intro _; rfl) (hs1 : ∀ env x, foldedSetIterable iter1 env x = pure x := by intro _ _; rfl) :
    VE ca W X (.ListComp elt [⟨tg, iter, ifs, 0⟩, ⟨tg1, iter1, ifs1, 0⟩] scope pos) (cLc2 src (own.map (·.2)) g t src1 vs1 g1 t1 fe) := by
  obtain ⟨wi, pi, si⟩ := hi
  exact ⟨_, pe_lc2 hc hN pi ok hv (fun s H C cl fp => (show PG _ tg (tgT X.K g) from (hg s H C cl fp).ex)) (fun s H C cl fp => (show PTs _ ifs (tUT X.K ca W0 t) from (ht s H C cl fp).pt)) (fun s H C cl fp => (show PI _ tg1 iter1 (tUI X.K ca W0 src1) from (hi1 s H C cl fp).pi)) (fun s H C cl fp => (show PG _ tg1 (tgT X.K g1) from (hg1 s H C cl fp).ex)) (fun s H C cl fp => (show PTs _ ifs1 (tUT X.K ca W0 t1) from (ht1 s H C cl fp).pt)) (fun s H C cl fp => (show PE _ elt (tU X.K ca W0 fe) from (he s H C cl fp).pe)) hs hs1,
    snd_lc2 ho ho1 si (fun B F env σ H Q st q => ⟨B, F, env, st, q⟩ : SndT X.K ca W0 (tUT X.K ca W0 t) t) (fun B F env σ H R st q => ⟨B, F, env, st, q⟩ : SndI X.K ca W0 (tUI X.K ca W0 src1) src1) (fun B F env σ H Q st q => ⟨B, F, env, st, q⟩ : SndT X.K ca W0 (tUT X.K ca W0 t1) t1) (fun B F env σ H Q st q => ⟨B, F, env, st, q⟩ : SndE X.K ca W0 (tU X.K ca W0 fe) fe)⟩
theorem vs_setLc2 {i : Nat} {y : Str} {py : Pos} {elt tg iter tg1 iter1 : Expr} {ifs ifs1 : List Expr} {scope : Scope} {own : List (Str × Nat)} {vs1 : List Nat} {spos : Pos} {src src1 : VEnv → Rs (List PyData)} {g g1 : Tg} {t t1 : VEnv → Rs Bool} {fe : VEnv → Rs RV} (hc : X.calm = true) (hN : X.N.Nodup) (hy : X.N[i]? = some y) (hyl : X.env.scope.names.lookup y = some .local)
    (hsw : swapsWith (.ListComp elt [⟨tg, iter, ifs, 0⟩, ⟨tg1, iter1, ifs1, 0⟩] scope pos) (some (.Name y py)) spos.line X.env = pure true) (hi : VJ ca W X tg iter src) (ok : BlkOk X.N X.env.scope scope own) (ho : ∀ i ∈ tgIx g, i ∈ own.map (·.2)) (hv : ∀ i ∈ vs1, i ∈ own.map (·.2)) (ho1 : ∀ i ∈ tgIx g1, i ∈ vs1)
    (hg : ∀ (s : Shared) (H : Hp) (C : Addr) (cl : List (Str × Addr)) (fp : List Addr), VG (X.blk s H scope (compEnvC scope cl C X.env) fp) tg g) (ht : ∀ (s : Shared) (H : Hp) (C : Addr) (cl : List (Str × Addr)) (fp : List Addr), VTs ca W0 (X.blk s H scope (compEnvC scope cl C X.env) fp) ifs t)
    (hi1 : ∀ (s : Shared) (H : Hp) (C : Addr) (cl : List (Str × Addr)) (fp : List Addr), VI ca W0 (X.blk s H scope (compEnvC scope cl C X.env) fp) tg1 iter1 src1)
    (hg1 : ∀ (s : Shared) (H : Hp) (C : Addr) (cl : List (Str × Addr)) (fp : List Addr), VG (X.blk s H scope (compEnvC scope cl C X.env) fp) tg1 g1) (ht1 : ∀ (s : Shared) (H : Hp) (C : Addr) (cl : List (Str × Addr)) (fp : List Addr), VTs ca W0 (X.blk s H scope (compEnvC scope cl C X.env) fp) ifs1 t1)
    (he : ∀ (s : Shared) (H : Hp) (C : Addr) (cl : List (Str × Addr)) (fp : List Addr), VE ca W0 (X.blk s H scope (compEnvC scope cl C X.env) fp) elt fe) (hs : ∀ x, foldedSetIterable iter X.env x = pure x := by intro _; rfl) (hs1 : ∀ env x, foldedSetIterable iter1 env x = pure x := by intro _ _; rfl) :
    VS ca W X (.Assign [.Name y py] (.ListComp elt [⟨tg, iter, ifs, 0⟩, ⟨tg1, iter1, ifs1, 0⟩] scope pos) spos) (sSet i (cLc2 src (own.map (·.2)) g t src1 vs1 g1 t1 fe)) := by
  obtain ⟨wi, pi, si⟩ := hi
  refine ⟨_, ps_setLc2 hc hN hy hyl hsw pi ok hv (fun s H C cl fp => (show PG _ tg (tgT X.K g) from (hg s H C cl fp).ex)) (fun s H C cl fp => (show PTs _ ifs (tUT X.K ca W0 t) from (ht s H C cl fp).pt)) (fun s H C cl fp => (show PI _ tg1 iter1 (tUI X.K ca W0 src1) from (hi1 s H C cl fp).pi)) (fun s H C cl fp => (show PG _ tg1 (tgT X.K g1) from (hg1 s H C cl fp).ex)) (fun s H C cl fp => (show PTs _ ifs1 (tUT X.K ca W0 t1) from (ht1 s H C cl fp).pt)) (fun s H C cl fp => (show PE _ elt (tU X.K ca W0 fe) from (he s H C cl fp).pe)) hs hs1, fun B F env σ H D st p => ?_⟩
  have se := snd_lc2 (own := own.map (·.2)) (own1 := vs1) (W := W) ho ho1 si (fun B F env σ H Q st q => ⟨B, F, env, st, q⟩ : SndT X.K ca W0 (tUT X.K ca W0 t) t) (fun B F env σ H R st q => ⟨B, F, env, st, q⟩ : SndI X.K ca W0 (tUI X.K ca W0 src1) src1) (fun B F env σ H Q st q => ⟨B, F, env, st, q⟩ : SndT X.K ca W0 (tUT X.K ca W0 t1) t1) (fun B F env σ H Q st q => ⟨B, F, env, st, q⟩ : SndE X.K ca W0 (tU X.K ca W0 fe) fe)
  show tLc2 wi (tgT X.K g) (tUT X.K ca W0 t) (tUI X.K ca W0 src1) (tgT X.K g1) (tUT X.K ca W0 t1) (tU X.K ca W0 fe) (own.map (·.2)) vs1 σ H fun x H1 => gName i x σ H1 D.nx
  exact outE se st p fun r F1 H1 v p1 g q => snd_put st g q p1
section
variable (src : VEnv → Rs (List PyData)) (own : List Nat) (tg : Tg) (t : VEnv → Rs Bool) (src1 : VEnv → Rs (List PyData)) (own1 : List Nat) (tg1 : Tg) (t1 : VEnv → Rs Bool) (fa : VEnv → Rs RV) (env : VEnv)
theorem e_lc2 : cLc2 src own tg t src1 own1 tg1 t1 fa env = (src env).bind fun xs => match lc2F tg t src1 own1 tg1 t1 fa (wipeE env own) xs with
  | .ok ds => if ds.length ≤ 1000000 then .ok (.ol ds) else .no
  | _ => .no := rfl
end
end VL

namespace VL
open PySem PySem.Spec PyProof.Rows L2 HT
/-! ## sorted lists of tuples of ints, empty ones among them: any kind of comparison -/
theorem lexLt_lxB : ∀ a b : List Int, lexLt a b = lxB a b
  | [], [] => rfl
  | [], _ :: _ => rfl
  | _ :: _, [] => rfl
  | x :: xs, y :: ys => by
    rw [lexLt_cons, lexLt_lxB xs ys]
    conv => rhs; unfold lxB
section
variable {prog : Program} {w : World} {A : Around} {s : Shared} {E : Value → Shared → Prop}
theorem slotLt {x y : Value} {ns ms : List Int} {Q : Bool → Shared → Prop} (hx : TS.TupInts s.heap x ns) (hy : TS.TupInts s.heap y ms) (room : A.units < cLine) (hq : Q (lxB ns ms) s) : wpAny (model prog w) A (oneLt' true x y) Q E s := by
  obtain ⟨l, vs, rfl, hl, hi⟩ := hx
  obtain ⟨b, us, rfl, hb, hj⟩ := hy
  obtain ⟨⟨c1, d1, p1, sl1⟩, o1, q1, n1, r1⟩ := id hl
  obtain ⟨⟨c2, d2, p2, sl2⟩, o2, q2, n2, r2⟩ := id hb
  simp only at q1 r1 q2 r2
  subst q1 r1 q2 r2
  rw [oneLt'_eq]
  simp only [if_true]
  refine wpAny_bind (wpAny_cRoomFor room ?_)
  refine wpAny_bind (wpAny_callSpecialIfBound?_slot (T := "tuple") ⟨_, o1, rfl⟩ PySem.F.slot_tuple_lt (call_meets PySem.F.slot_tuple_lt ⟨_, o1, rfl⟩ PySem.F.entry_tuple_lt (PySem.F.args_tuple_lt_2 _ _) (tuple_lt_ints l b vs us n1 n2 d1 d2 sl1 sl2 ns ms hi hj) ⟨o1, o2, ?_⟩))
  rw [lexLt_lxB]
  exact wpAny_truthy_bool hq
theorem richLt {x y : Value} {ns ms : List Int} {Q : Bool → Shared → Prop} (hx : TS.TupInts s.heap x ns) (hy : TS.TupInts s.heap y ms) (room : A.units < cLine) (hq : Q (lxB ns ms) s) : wpAny (model prog w) A (oneLt' false x y) Q E s := by
  obtain ⟨l, vs, rfl, hl, hi⟩ := hx
  obtain ⟨b, us, rfl, hb, hj⟩ := hy
  refine PySem.W.kat_one _ _ (lt_tupInts hl hb hi hj room ?_)
  rw [lexLt_lxB]
  exact hq
/-- the first elements, where there are some -/
theorem firsts_some {A : Around} : ∀ (vs : List Value) {k : Value → List Int}, (∀ v ∈ vs, TS.TupInts s.heap v (k v)) → ∃ os : List (Option Value), os.length = vs.length ∧ (∀ (i : Nat) (v : Value), vs[i]? = some v → ∃ o : Option Value, os[i]? = some o ∧ (o.isSome = true ↔ k v ≠ [])) ∧
    ∀ {M : Model} {Q : List (Option Value) → Shared → Prop} {E : Value → Shared → Prop}, Q os s → wpAny M A (vs.mapM firstOfTuple') Q E s
  | [], k, _ => ⟨[], rfl, fun i v h => by simp at h, fun h => by rw [List.mapM_nil]; exact wpAny_pure h⟩
  | v :: vs, k, hp => by
    obtain ⟨os, l1, h1, h2⟩ := firsts_some vs (k := k) fun u hu => hp u (List.mem_cons_of_mem _ hu)
    obtain ⟨a, xs, rfl, ⟨o, ho, hc, n, hd⟩, hi⟩ := hp v List.mem_cons_self
    refine ⟨xs[0]? :: os, by simp [l1], fun i u hu => ?_, fun {M Q E} hq => ?_⟩
    · cases i with
      | zero =>
        obtain rfl : Value.ref a = u := by simpa using hu
        refine ⟨_, rfl, ?_⟩
        have l := hi.length
        rw [Array.length_toList] at l
        rw [Option.isSome_iff_ne_none]
        constructor
        · intro z e
          apply z
          rw [e] at l
          exact Array.getElem?_eq_none (by simpa using Nat.le_of_eq l)
        · intro z e
          have := Array.getElem?_eq_none_iff.mp e
          have l0 : (k (.ref a)).length = 0 := by omega
          exact z (List.length_eq_zero_iff.mp l0)
      | succ i => exact h1 i u (by simpa using hu)
    · rw [List.mapM_cons]
      refine wpAny_bind ?_
      rw [PySem.W.kas_first_eq]
      refine wpAny_bind (PySem.W.Looks.here (show PySem.W.Looks M s.heap (typeOf (.ref a)) o.cls from (PySem.W.Looks.ld ho).andThen .now) ?_)
      have ne : (o.cls != Value.type "tuple") = false := by rw [hc]; decide +kernel
      rw [ne, if_neg Bool.false_ne_true]
      refine wpAny_bind (listItems_at ho hd (wpAny_pure ?_))
      exact wpAny_bind (h2 (Q := fun bs s' => wpAny M A (pure (xs[0]? :: bs)) Q E s') (wpAny_pure hq))
theorem kind_mixed {vs : List Value} {k : Value → List Int} (hp : ∀ v ∈ vs, TS.TupInts s.heap v (k v)) (hm : ∃ v ∈ vs, k v = []) : ∃ κ : SortKind, (κ = oneType' ∨ κ = general') ∧ ∀ (M : Model) (Q : SortKind → Shared → Prop) (E : Value → Shared → Prop), Q κ s → wpAny M A (keyKind' vs.toArray) Q E s := by
  obtain ⟨os, l1, h1, h2⟩ := firsts_some (A := A) vs hp
  have na : (os.toArray.all fun x => x.isSome) = false := by
    obtain ⟨v, hv, e⟩ := hm
    obtain ⟨i, hi, rfl⟩ := List.getElem_of_mem hv
    obtain ⟨o, ho, hs⟩ := h1 i vs[i] (List.getElem?_eq_getElem hi)
    have : o.isSome = false := by
      cases h : o.isSome with
      | false => rfl
      | true => exact absurd e (hs.mp h)
    rw [List.all_toArray, List.all_eq_false]
    exact ⟨o, List.mem_of_getElem? ho, by rw [this]; simp⟩
  refine ⟨if (os.toArray[0]?.bind id).isSome then general' else oneType', by split <;> simp, fun M Q E hq => ?_⟩
  rw [keyKind'_eq, List.mapM_toArray, map_eq_pure_bind]
  refine wpAny_bind (wpAny_bind (h2 (wpAny_pure ?_)))
  rw [na, if_neg Bool.false_ne_true]
  split
  · rename_i c
    rw [if_pos c] at hq
    exact wpAny_pure hq
  · rename_i c
    rw [if_neg c] at hq
    rw [oneTypeOnly'_eq, List.mapM_toArray, map_eq_pure_bind]
    refine wpAny_bind (wpAny_bind (wpAny_bind (PySem.W.kas_mapM (r := Value.type "tuple") _ (fun v hv Q' hq' => ?_) (wpAny_pure ?_))))
    · obtain ⟨a, xs, rfl, ⟨o, ho, hc, n, hd⟩, hi⟩ := hp v hv
      rw [← hc] at hq'
      exact PySem.W.Looks.here (show PySem.W.Looks M s.heap (typeOf (.ref a)) o.cls from (PySem.W.Looks.ld ho).andThen .now) hq'
    · have h0 : (List.map (fun _ => Value.type "tuple") vs).toArray[0]? = some (Value.type "tuple") := by
        obtain ⟨v, hv, _⟩ := hm
        cases vs with
        | nil => cases hv
        | cons x xs => simp
      have hall : ((List.map (fun _ => Value.type "tuple") vs).toArray.all fun x => x == Value.type "tuple") = true := by
        rw [List.all_toArray, List.all_eq_true]
        intro x hx
        obtain ⟨_, _, rfl⟩ := List.mem_map.mp hx
        decide +kernel
      rw [h0]
      simp only [hall, if_true]
      exact wpAny_pure (wpAny_pure hq)
theorem any_sortable {a : Addr} {vs : List Value} {k : Value → List Int} (room : A.units < cLine) (h0 : 0 < vs.length) (hp : ∀ v ∈ vs, TS.TupInts s.heap v (k v)) (ha : ∀ o, s.heap.get? a = some o → o.cls ≠ .type "tuple") : SrtO.SortableO prog w A s a vs fun v u => lxB (k v) (k u) := by
  by_cases hne : ∀ v ∈ vs, k v ≠ []
  · exact tups_sortable h0 (fun v hv => ⟨hp v hv, hne v hv⟩) ha
  have hex : ∃ v ∈ vs, k v = [] := by
    obtain ⟨v, e⟩ := Classical.not_forall.mp hne
    obtain ⟨hv, e⟩ := Classical.not_imp.mp e
    exact ⟨v, hv, Classical.not_not.mp e⟩
  intro h' keep
  have hp' : ∀ v ∈ vs, TS.TupInts h' v (k v) := fun v hm => (hp v hm).keeps fun b o e c => keep b o (fun z => by subst z; exact ha o e c) e
  obtain ⟨κ, hκ, hk⟩ := kind_mixed (s := { s with heap := h' }) (A := A) hp' hex
  refine ⟨κ, fun Q E hq => hk _ Q E hq, fun p q hm hm' => ?_⟩
  rcases hκ with rfl | rfl
  · exact slotLt (hp' _ hm) (hp' _ hm') room ⟨rfl, rfl⟩
  · exact richLt (hp' _ hm) (hp' _ hm') room ⟨rfl, rfl⟩
theorem sorted_tupsA {l : Addr} {vs : List Value} {k : Value → List Int} {Q : Value → Shared → Prop} {E : Value → Shared → Prop} (hl : s.heap.IsList l vs.toArray) (hz : vs.length ≤ sizeLine) (hp : ∀ v ∈ vs, TS.TupInts s.heap v (k v)) (room : A.units + 2 < cLine)
    (h : ∀ (h' : Heap) (d : Addr) (out : List Value), SrtO.Srtd (fun v u => lxB (k v) (k u)) out → SrtO.Stb (fun v u => lxB (k v) (k u)) out vs → (∀ b o, s.heap.get? b = some o → h'.get? b = some o) → s.heap.objs.size ≤ d → (∃ n, h'.get? d = some (seqObj "list" out.toArray n)) → Q (.ref d) { s with heap := h' }) :
    wpAny (model prog w) A (call (.builtin "sorted") [.ref l]) Q E s := by
  refine SrtO.sorted_ord (swo_lx k) hl hz (fun h2 h₁ a ha kk => ?_) fun out hs hb => ?_
  · refine any_sortable (s := { s with heap := h₁ }) room (by omega) (fun v hm => (hp v hm).keeps fun b o e _ => (kk b o e).2) fun o e => ?_
    have e' : some o = some (seqObj "list" vs.toArray 0) := e.symm.trans ha
    cases e'
    intro c
    exact absurd (Value.type.inj c) (by decide)
  · exact h _ _ out hs hb (fun b o e => sortedAll_old e) (Nat.le_succ _) (sortedAll_at s.heap vs out.toArray)
end
def rSortedLA (K : PySem.W.Frag) : List V → Hp → VK → Prop := fun vs H Q => ∃ (a : Addr) (xs : List V) (k : V → List Int), vs = [V.ref a] ∧ SqL K H a xs ∧ (∀ x ∈ xs, ∃ t, x = V.ref t ∧ SqT K H t ((k x).map V.int)) ∧
  ∀ ys p, SrtO.Srtd (fun x y => lxB (k x) (k y)) ys → SrtO.Stb (fun x y => lxB (k x) (k y)) ys xs → H p = none → Q (.ref p) (upd H p (.lst ys))
theorem cr_sortedLA {X : Cx} (hu : X.A.units + 65 < cLine) : CallR X (.builtin "sorted") (rSortedLA X.K) := by
  intro pins s σ H vs us Q I r h
  obtain ⟨a, xs, k, rfl, hs, hx, q⟩ := h
  obtain ⟨its, rv, hl, hz⟩ := I.list hs
  obtain ⟨u, rfl, ru⟩ := vals1 r
  obtain rfl : u = Value.ref a := ru
  obtain ⟨e1, e2⟩ := refs_back rv fun x m => by
    obtain ⟨t, e, _⟩ := hx x m
    exact ⟨t, e⟩
  refine sorted_tupsA (k := fun u => k (backV u)) hl.isList (by rw [← rv.length]; exact hz) (fun v hv => ?_) (by omega) fun h' d out h1 h2 kp hd hn => ?_
  · obtain ⟨t, rfl⟩ := e2 v hv
    have hm : V.ref t ∈ xs := by rw [e1]; exact List.mem_map.mpr ⟨_, hv, rfl⟩
    obtain ⟨t', e, ht⟩ := hx _ hm
    cases e
    obtain ⟨its2, r2, hT, _⟩ := I.tuple ht
    exact ⟨t, its2.toArray, rfl, hT, by
      have z := ints_are r2
      show IntsAre its2.toArray.toList (k (V.ref t))
      simpa using z⟩
  · have h3 : ∀ u ∈ out, ∃ a, u = Value.ref a := fun u hu => e2 u (h2.perm.mem_iff.mp hu)
    obtain ⟨n, hn⟩ := hn
    have hb : SrtO.Stb (fun x y => lxB (k x) (k y)) (out.map backV) xs := by
      rw [e1]
      exact SrtO.Stb.map (swo_lx k) backV h2
    refine ⟨.ref d, upd H d (.lst (out.map backV)), I.laid (t' := s.toks) kp hd ⟨?_, out, n, vals_back h3, hn⟩, rfl, q _ d (SrtO.srtd_map h1) hb (I.hok.fresh hd)⟩
    rw [hb.len]
    exact hz
def rSortedRowsA (K : PySem.W.Frag) : List V → Hp → VK → Prop := fun vs H Q => ∃ (a : Addr) (xs : List V) (rows : List (List Int)) (P : V → List Int → Prop), vs = [V.ref a] ∧ SqL K H a xs ∧ (∀ x ns, P x ns → TupR K H x ns) ∧ Paired P xs rows ∧
  ∀ (ys : List V) (rows' : List (List Int)) p, Paired P ys rows' → rows'.Pairwise (fun a b => lxB b a = false) → rows'.Perm rows → H p = none → Q (.ref p) (upd H p (.lst ys))
theorem cr_sortedRowsA {X : Cx} (hu : X.A.units + 65 < cLine) : CallR X (.builtin "sorted") (rSortedRowsA X.K) := by
  intro pins s σ H vs us Q I r h
  obtain ⟨a, xs, rows, P, rfl, hs, hT, hp, q⟩ := h
  obtain ⟨k, hk⟩ : ∃ k : V → List Int, ∀ x ns, TupR X.K H x ns → k x = ns := by
    classical
    refine ⟨fun x => if h : ∃ ns, TupR X.K H x ns then Classical.choose h else [], fun x ns hx => ?_⟩
    have hex : ∃ ns, TupR X.K H x ns := ⟨ns, hx⟩
    have e := Classical.choose_spec hex
    simp only [dif_pos hex]
    generalize Classical.choose hex = ms at e ⊢
    obtain ⟨t, e1, h1⟩ := e
    obtain ⟨t', e2, h2⟩ := hx
    rw [e1] at e2
    cases e2
    exact int_inj (I.tuple_inj h1 h2)
  have km : ∀ {xs : List V} {rows : List (List Int)}, Paired P xs rows → xs.map k = rows ∧ ∀ x ∈ xs, P x (k x) := by
    intro xs rows hp
    induction hp with
    | nil => exact ⟨rfl, fun x hx => by cases hx⟩
    | @cons x ns xs rows h1 _ ih =>
      have e := hk x ns (hT x ns h1)
      refine ⟨by rw [List.map_cons, e, ih.1], fun y hy => ?_⟩
      rcases List.mem_cons.mp hy with rfl | hy
      · rw [e]; exact h1
      · exact ih.2 y hy
  obtain ⟨k1, k2⟩ := km hp
  refine cr_sortedLA hu pins s σ H _ us Q I r ⟨a, xs, k, rfl, hs, fun x hx => hT _ _ (k2 x hx), fun ys p h1 h2 n => q ys (ys.map k) p ?_ (List.pairwise_map.mpr h1) ?_ n⟩
  · have : ∀ y ∈ ys, P y (k y) := fun y hy => k2 y (h2.perm.mem_iff.mp hy)
    clear h1 h2
    induction ys with
    | nil => exact .nil
    | cons y ys ih => exact .cons (this y List.mem_cons_self) (ih fun z hz => this z (List.mem_cons_of_mem _ hz))
  · rw [← k1]
    exact h2.perm.map k
/-- sorted(xs), xs a list of tuples of ints -/
def gSortedA : List RV → Rs RV
  | [r] => (rsO r.qv).bind fun xs => (rsO (tupsI xs)).bind fun rows => .ok (.ol ((isortT rows).map fun r => .tuple (r.map .int)))
  | _ => .no
theorem e_sortedA (r : RV) : gSortedA [r] = (rsO r.qv).bind fun xs => (rsO (tupsI xs)).bind fun rows => .ok (.ol ((isortT rows).map fun r => .tuple (r.map .int))) := rfl
theorem c_sortedA {K : PySem.W.Frag} {ca : CA} : CaS K ca (rSortedRowsA K) gSortedA := by
  intro W σ F0 H0 F H vs as Q gr h p
  unfold gSortedA at p
  split at p
  · rename_i r
    obtain ⟨v, rfl, hx⟩ := pr1 h
    cases e : r.qv with
    | none => rw [e] at p; exact p.elim
    | some xs =>
      rw [e] at p
      simp only [rsO_some, Rs.bind_ok] at p
      cases e2 : tupsI xs with
      | none => rw [e2] at p; exact p.elim
      | some rows =>
        rw [e2] at p
        simp only [rsO_some, Rs.bind_ok] at p
        obtain ⟨q, ws, rfl, hq, dq⟩ := qv_ok gr.cfg.sub hx e
        refine ⟨q, ws, rows, TupN K F, rfl, hq, fun x ns ⟨t, e3, h3⟩ => ⟨t, e3, same_seqT gr.cfg.sub h3.1⟩, tups_ok dq e2, fun ys rows' l py so pm hl => ?_⟩
        have e3 : rows' = isortT rows := sortedT_uniq (pm.trans (isortT_perm rows).symm) so (isortT_sorted rows)
        subst e3
        have g2 := Grow.newO gr.cfg (.lst ys) hl (fun _ z => by cases z)
        exact p _ _ _ (gr.trans g2) ⟨l, _, rfl, none_n gr.hh hl, same_none gr.cfg.sub hl, upd_same, tups_dq py⟩
  · exact p.elim
end VL

namespace VL
open PySem PySem.Spec PyProof.Rows L2
/-! ## is True, is not False -/
def gIsB (a b : RV) : Rs RV := match a, b with
  | .d (.bool x), .d (.bool y) => okB (decide (x = y))
  | _, _ => .no
def gIsNotB (a b : RV) : Rs RV := match a, b with
  | .d (.bool x), .d (.bool y) => okB (!decide (x = y))
  | _, _ => .no
theorem e_isB (x y : Bool) : gIsB (.d (.bool x)) (.d (.bool y)) = .ok (.d (.bool (decide (x = y)))) := rfl
theorem e_isNotB (x y : Bool) : gIsNotB (.d (.bool x)) (.d (.bool y)) = .ok (.d (.bool (!decide (x = y)))) := rfl
theorem s_isB {K : PySem.W.Frag} {ca : CA} : Op2S K ca (fun x y H Q => ∃ a b : Bool, x = .bl a ∧ y = .bl b ∧ Q (.bl (decide (a = b))) H) gIsB := by
  intro W σ F0 H0 F H v1 v2 a b Q gr h1 h2 p
  unfold gIsB at p
  split at p
  · rename_i x y
    cases h1
    cases h2
    exact ⟨x, y, rfl, rfl, p F H _ gr (.bl _)⟩
  · exact p.elim
theorem s_isNotB {K : PySem.W.Frag} {ca : CA} : Op2S K ca (fun x y H Q => ∃ a b : Bool, x = .bl a ∧ y = .bl b ∧ Q (.bl (!decide (a = b))) H) gIsNotB := by
  intro W σ F0 H0 F H v1 v2 a b Q gr h1 h2 p
  unfold gIsNotB at p
  split at p
  · rename_i x y
    cases h1
    cases h2
    exact ⟨x, y, rfl, rfl, p F H _ gr (.bl _)⟩
  · exact p.elim
end VL

namespace VL
open PySem PySem.Spec PyProof.Rows L2
/-! ## a dict whose keys are tuples of ints: its keys walked, the greatest of its values -/
section
variable {X : Cx} {pins : List (Addr × Obj)} {σ : L2.St} {H : Hp} {s : Shared} {d : Addr} {n : Nat} {xs : List (List Int × Addr × Value)}
theorem dto_raw (I : Inv X pins σ H s) (h : H d = some (DTO d (n, xs))) : (d == sysModules) = false ∧ ∃ (o : Obj) (es : Array DictEntry), s.heap.get? d = some o ∧ o.ExactDict ∧ o.data = .dict es n ∧ es.size = xs.length ∧ ∀ (i : Nat) (e : List Int × Addr × Value), xs[i]? = some e → ∃ en : DictEntry, es[i]? = some en ∧ en.key = .ref e.2.1 ∧ en.val = e.2.2 := by
  obtain ⟨⟨o, es, h1, h2, h3, h4, h5, h6, h7⟩, _⟩ := (show ObjOk X.prog X.w H s.heap d (.ext (DTOk d (n, xs))) from I.hok d _ h)
  refine ⟨h7, o, es, h1, h2, h3, ?_, fun i e he => ?_⟩
  · have := congrArg List.length h4
    rw [List.length_map, Array.length_toList] at this
    exact this
  · refine ⟨⟨hashT e.1, .ref e.2.1, e.2.2⟩, ?_, rfl, rfl⟩
    have hx : xs[i]? = some e := he
    rw [← Array.getElem?_toList, h4]
    show ((xs.map _)[i]? : Option DictEntry) = _
    rw [List.getElem?_map, hx]
    rfl
end
def ItT (d : Addr) (n : Nat) (xs : List (List Int × Addr × Value)) : It :=
  ⟨fun i H => H d = some (DTO d (n, xs)) ∧ i < xs.length, fun i H x H' => H' = H ∧ ∃ e, xs[i]? = some e ∧ x = .ref e.2.1, fun i H => H d = some (DTO d (n, xs)) ∧ xs.length ≤ i⟩
theorem turn_dto {P : Program} {w : World} {K : PySem.W.Frag} {tg : Expr} {d : Addr} {n : Nat} {xs : List (List Int × Addr × Value)} (it : Addr) : Turn P w K tg (ItT d n xs) [it] it (fun i h => h.IsKeyIter it d i xs.length n) where
  mem := List.mem_singleton.mpr rfl
  obj := fun i h hit b hb => by
    obtain rfl : b = it := List.mem_singleton.mp hb
    obtain ⟨ob, g1, g2, g3⟩ := hit
    exact ⟨ob, g1, fun v z => nomatch (g3.symm.trans z)⟩
  keep := fun i h h' hit same => hit.at fun ob g => same it (List.mem_singleton.mpr rfl) ob g
  item := by
    intro X hP hw hK hc i pins s σ H E I ff hit hgo
    subst hP hw hK
    obtain ⟨hd, hi⟩ := hgo
    obtain ⟨a0, a1, a2, a3, a4, a5⟩ := ff it (List.mem_singleton.mpr rfl)
    obtain ⟨_, o, es, g1, g2, g3, g4, g5⟩ := dto_raw I hd
    obtain ⟨en, g6, g7, _⟩ := g5 i xs[i] (List.getElem?_eq_getElem hi)
    refine next_key_item hit g1 g3 g4 g6 fun h' hit' same => ?_
    have I1 : Inv X pins σ H { s with heap := h' } := I.turned (t' := s.toks) (fun b ob nb g => (same.2 b nb).trans g) a0 a1 a3 a4 a5
    obtain ⟨oi, q1, q2, q3⟩ := id hit'
    exact ⟨en.key, rfl, go_of (s := { s with heap := h' }) q1 q2 q3 (by decide) ⟨.ref xs[i].2.1, H, I1, g7, ⟨rfl, xs[i], List.getElem?_eq_getElem hi, rfl⟩, hit', fun b hb => (ff b hb).1⟩⟩
  done := by
    intro X hP hw hK hc i pins s σ H E I ff hit hgo
    subst hP hw hK
    obtain ⟨hd, hi⟩ := hgo
    obtain ⟨a0, a1, a2, a3, a4, a5⟩ := ff it (List.mem_singleton.mpr rfl)
    obtain ⟨_, o, es, g1, g2, g3, g4, g5⟩ := dto_raw I hd
    exact next_key_end (I.ok.hd hc) hit g1 g3 g4 hi fun h' eb => ⟨rfl, I.turned (t' := s.toks) (fun b ob nb g => eb b ob nb g) a0 a1 a3 a4 a5⟩
  self := fun A i s Q E hit k => wpAny_pyIter_keyiter hit k
def iKeysO (td : TE) : TI := fun σ H R => td σ H fun x H1 => ∃ d n xs, x = .ref d ∧ H1 d = some (DTO d (n, xs)) ∧ R (ItT d n xs) H1
theorem pi_keysO {X : Cx} {tg e : Expr} {td : TE} (he : PE X e td) : PI X tg e (iKeysO td) := by
  refine ⟨fun pins s σ H R I h => thn (he.run pins s σ H _ I h) fun u s1 ⟨x, H1, I1, rx, d, n, xs, ex, hd, q⟩ => ?_⟩
  subst ex
  obtain rfl : u = Value.ref d := rx
  obtain ⟨g0, o, es, g1, g2, g3, g4, g5⟩ := dto_raw I1 hd
  refine iter_keys g0 g1 g2 g3 (pi_one (tk := s1.toks) I1 _ (turn_dto _) ⟨_, Heap.get?_push_size _ rfl, rfl, ?_⟩ q)
  rw [g4]
  rfl
theorem jw_dto {G : Hp} {d : Addr} {n : Nat} {xs : List (List Int × Addr × Value)} (h : G d = some (DTO d (n, xs))) : JWalk (ItT d n xs) G (xs.map fun e => V.ref e.2.1) where
  go := fun i H s hi => ⟨s _ _ h, by simpa using hi⟩
  yld := fun i H x H' s y hi => by
    obtain ⟨e1, e, e2, e3⟩ := y
    exact ⟨e1, by rw [List.getElem?_map, e2, e3]; rfl⟩
  stop := fun H s => ⟨s _ _ h, by simp⟩
theorem ktl_keys {K : PySem.W.Frag} {F : Hp} : ∀ {xs : List (List Int × Addr × Value)} {kvs : List (List Int × PyData)}, KTl K F xs kvs → DqA K F (xs.map fun e => V.ref e.2.1) (kvs.map fun e => .tuple (e.1.map .int))
  | _, _, .nil => .nil
  | _, _, .cons h r => .cons (.tup (by have := h.2.1; rw [h.1] at this; exact this) (DqA.of_ints _)) (ktl_keys r)
/-- the keys of a dict -/
def iD (fe : VEnv → Rs RV) : VEnv → Rs (List PyData) := fun env => (fe env).bind fun r => (rsO r.dt).bind fun kvs => .ok (kvs.map fun e => .tuple (e.1.map .int))
theorem e_iD (fe : VEnv → Rs RV) (env : VEnv) : iD fe env = (fe env).bind fun r => (rsO r.dt).bind fun kvs => .ok (kvs.map fun e => .tuple (e.1.map .int)) := rfl
section
variable {ca : CA} {W : WX} {X : Cx} {e : Expr} {fa : VEnv → Rs RV}
theorem vj_dict {tg : Expr} (h : VE ca W X e fa) : VJ ca W X tg e (iD fa) := by
  obtain ⟨t, p, s⟩ := h
  refine ⟨_, pi_keysO p, fun B F env σ H R st q => ?_⟩
  show t σ H fun x H1 => ∃ d n xs, x = .ref d ∧ H1 d = some (DTO d (n, xs)) ∧ R (ItT d n xs) H1
  refine seqE (PostJ X.K ca W σ F H R) s st q (fun _ _ h => h) (fun h => h) fun r F1 H1 v p1 g1 q1 => ?_
  cases e1 : r.dt with
  | none => rw [e1] at p1; exact p1.elim
  | some kvs =>
    rw [e1] at p1
    simp only [rsO_some, Rs.bind_ok] at p1
    obtain ⟨d, n, xs, rfl, hd, kq⟩ := dt_ok q1 e1
    exact ⟨d, n, xs, rfl, hd, p1 _ F1 H1 _ g1 (ktl_keys kq) (jw_dto hd)⟩
end
/-! ### max(d.values()) -/
def tMaxO (td : TE) : TE := fun σ H Q => td σ H fun x H1 => ∃ d n xs is, x = .ref d ∧ H1 d = some (DTO d (n, xs)) ∧ Paired (fun (e : List Int × Addr × Value) (j : Int) => ∃ t, e.2.2 = .int j t) xs is ∧ is ≠ [] ∧ ∀ m, m ∈ is → (∀ j ∈ is, j ≤ m) → Q (.int m) H1
theorem paired_at {α β : Type} {R : α → β → Prop} {xs : List α} {ys : List β} (h : Paired R xs ys) : ∀ {i : Nat} {x : α}, xs[i]? = some x → ∃ y, ys[i]? = some y ∧ R x y := by
  induction h with
  | nil => intro i x e; simp at e
  | @cons a b as bs h1 _ ih =>
    intro i x e
    cases i with
    | zero =>
      obtain rfl : a = x := by simpa using e
      exact ⟨b, rfl, h1⟩
    | succ i => exact ih (by simpa using e)
theorem pe_maxO {X : Cx} {oe : Expr} {p pos apos mpos : Pos} {td : TE} (hc : X.calm = true) (hg : Gl X "max") (hm : X.mg "max" = none) (hd : PE X oe td) (hbase : attributeBase oe "values" X.env (eval oe X.env) = eval oe X.env := by rfl) (hline : (apos.endLine == mpos.line) = true := by rfl)
    (hst : starEach [Expr.Call (.Attribute oe "values" apos) [] [] mpos] X.env = [(false, eval (Expr.Call (.Attribute oe "values" apos) [] [] mpos) X.env)] := by rfl) :
    PE X (.Call (.Name "max" p) [.Call (.Attribute oe "values" apos) [] [] mpos] [] pos) (tMaxO td) := by
  refine ⟨fun pins s σ H Q I h => wpAny_Call_Name_kw (ld_blt I hg hm (u := .builtin "max") (by first | rfl | decide +kernel) ?_ (by first | decide +kernel | decide) (by first | decide +kernel | decide))⟩
  rw [hst]
  refine PySem.callWith_builtin1 (wpAny_Call_method0_late hbase hline (thn (hd.run pins s σ H _ I h) fun v s1 ⟨x, H1, I1, r1, d, n, xs, is, ex, ha, hv, hne, q⟩ => ?_))
  subst ex
  obtain rfl : v = Value.ref d := r1
  obtain ⟨g0, ob, es, g1, g2, g3, g4, g5⟩ := dto_raw I1 ha
  have hl : xs.length = is.length := hv.length
  refine ⟨"dict", "dict.values", PySem.F.plainAttrs_dict, PySem.F.slot_dict_values, PySem.F.type_dict_values, ⟨ob, g1, g2.1⟩, fun b e => ?_, Calls.callWith_builtin rfl (PySem.evalArgs_none ?_)⟩
  · cases e
    exact ⟨ob, g1, g2.2.1⟩
  refine call_meetsIn PySem.F.slot_dict_values ⟨ob, g1, g2.1⟩ PySem.F.entry_dict_values (PySem.F.args_dict_values_1 _) (PySem.meets_dict_values_raw d g0) ⟨⟨es, n, ob, g1, g2, g3⟩, ?_⟩
  have hlt : d < s1.heap.objs.size := Heap.lt_size g1
  have kp : ∀ b u, s1.heap.get? b = some u → (s1.heap.push { cls := .type "dict_values", data := .fields #[.ref d] }).get? b = some u := fun b u e => Heap.get?_push_of_some _ e
  have sz : (s1.heap.push { cls := .type "dict_values", data := .fields #[.ref d] }).objs.size = s1.heap.objs.size + 1 := Heap.size_push _ _
  have val : ∀ (i : Nat) (e : DictEntry), es[i]? = some e → ∃ t, e.val = .int (is.getD i 0) t := fun i e he => by
    have hi : i < es.size := (Array.getElem?_eq_some_iff.mp he).1
    have hix : i < xs.length := by omega
    obtain ⟨en, z1, _, z2⟩ := g5 i xs[i] (List.getElem?_eq_getElem hix)
    obtain rfl : en = e := Option.some.inj (z1.symm.trans he)
    obtain ⟨j, z3, t, z4⟩ := paired_at hv (List.getElem?_eq_getElem hix)
    exact ⟨t, by rw [z2, z4, List.getD_eq_getElem?_getD, z3]; rfl⟩
  have npos : 0 < es.size := by
    have := List.length_pos_iff.mpr hne
    omega
  refine call_max_walk (DSub.iter_vals (v := s1.heap.objs.size) (a := d) (Heap.get?_push_size _ rfl) (kp _ _ g1) g3 ?_)
  refine ⟨_, _, _, _, _, _, _, rfl, DSub.walksVal (A := X.A.in1) (a := d) (ob := ob) (P := fun i v => ∃ t, v = .int (is.getD i 0) t) (I.ok.hd hc) (I := (s1.heap.push { cls := .type "dict_values", data := .fields #[.ref d] }).objs.size) (by rw [sz]; exact Nat.ne_of_lt (Nat.lt_succ_of_lt hlt)) g3 val,
    ⟨Heap.get?_push_size _ rfl, Heap.get?_push_of_some _ (kp _ _ g1)⟩, fun b hb => ?_, npos, CmpOf.ints_gt (fun i => is.getD i 0) (fun i v z => z), fun v h' tk hP hk => ?_⟩
  · show b < ((s1.heap.push _).push _).objs.size
    rw [Heap.size_push, sz]
    rw [sz] at hb
    rcases List.mem_cons.mp hb with e | e
    · rw [e]
      exact Nat.lt_succ_self _
    · rw [List.mem_singleton.mp e]
      exact Nat.lt_succ_of_lt (Nat.lt_succ_of_lt hlt)
  · obtain ⟨t, rfl⟩ := hP
    obtain ⟨b1, b2⟩ := argBest_gt (fun i => is.getD i 0) (es.size - 1)
    refine ⟨.int _, H1, I1.kept (t' := tk) fun b u e => hk b u (fun z => ?_) (Heap.get?_push_of_some _ (kp b u e)), ⟨t, rfl⟩, q _ ?_ fun j hj => ?_⟩
    · have z1 := List.mem_singleton.mp z
      have z2 := Heap.lt_size e
      rw [sz] at z1
      rw [z1] at z2
      exact absurd z2 (Nat.not_lt.mpr (Nat.le_succ _))
    · have m1 : argBest (fun i j => decide (is.getD i 0 > is.getD j 0)) (es.size - 1) ≤ es.size - 1 := b1
      have hb : argBest (fun i j => decide (is.getD i 0 > is.getD j 0)) (es.size - 1) < is.length := by omega
      rw [List.getD_eq_getElem?_getD, List.getElem?_eq_getElem hb]
      exact List.getElem_mem hb
    · obtain ⟨i, hi, rfl⟩ := List.getElem_of_mem hj
      have e2 : is.getD i 0 = is[i] := by rw [List.getD_eq_getElem?_getD, List.getElem?_eq_getElem hi]; rfl
      rw [← e2]
      exact b2 i (by omega)
/-- the ints that a dict holds -/
def valsI : List (List Int × PyData) → Option (List Int)
  | [] => some []
  | (_, .int j) :: r => (valsI r).map (j :: ·)
  | _ => none
theorem vals_ints {K : PySem.W.Frag} {F : Hp} : ∀ {xs : List (List Int × Addr × Value)} {kvs : List (List Int × PyData)} {is : List Int}, KTl K F xs kvs → valsI kvs = some is → Paired (fun (e : List Int × Addr × Value) (j : Int) => ∃ t, e.2.2 = .int j t) xs is
  | _, [], is, h, e => by cases h; cases e; exact .nil
  | _, (k, v) :: r, is, h, e => by
    cases h with
    | cons h1 h2 =>
      cases v with
      | int j =>
        unfold valsI at e
        obtain ⟨is', e1, e2⟩ := Option.map_eq_some_iff.mp e
        subst e2
        obtain ⟨w, r1, r2⟩ := h1.2.2
        cases r2
        exact .cons r1 (vals_ints h2 e1)
      | _ => cases e
def cMaxV (fa : VEnv → Rs RV) : VEnv → Rs RV := fun env => (fa env).bind fun r => (rsO r.dt).bind fun kvs => (rsO (valsI kvs)).bind fun is => (rsO (maxL is)).bind okI
theorem e_maxV (fa : VEnv → Rs RV) (env : VEnv) : cMaxV fa env = (fa env).bind fun r => (rsO r.dt).bind fun kvs => (rsO (valsI kvs)).bind fun is => (rsO (maxL is)).bind okI := rfl
theorem maxL_of {is : List Int} {m : Int} (h : m ∈ is) (k : ∀ j ∈ is, j ≤ m) : maxL is = some m := by
  cases is with
  | nil => cases h
  | cons x xs =>
    have key : ∀ (xs : List Int) (a : Int), (∀ j ∈ xs, j ≤ m) → a ≤ m → (a = m ∨ m ∈ xs) → xs.foldl (fun a b => if b > a then b else a) a = m := by
      intro xs
      induction xs with
      | nil =>
        intro a _ _ h
        rcases h with h | h
        · exact h
        · cases h
      | cons y ys ih =>
        intro a hx ha h
        rw [List.foldl_cons]
        have hy := hx y List.mem_cons_self
        refine ih _ (fun j hj => hx j (List.mem_cons_of_mem _ hj)) (by split <;> omega) ?_
        by_cases c : a = m
        · left
          split <;> omega
        · rcases h with h | h
          · exact absurd h c
          · rcases List.mem_cons.mp h with e | e
            · left
              split <;> omega
            · exact .inr e
    show some (xs.foldl _ x) = some m
    refine congrArg some (key xs x (fun j hj => k j (List.mem_cons_of_mem _ hj)) (k x List.mem_cons_self) ?_)
    rcases List.mem_cons.mp h with e | e
    · exact .inl e.symm
    · exact .inr e
theorem ve_maxV {ca : CA} {W : WX} {X : Cx} {oe : Expr} {fa : VEnv → Rs RV} {p pos apos mpos : Pos} (hc : X.calm = true) (hg : Gl X "max") (hm : X.mg "max" = none) (h : VE ca W X oe fa) (hbase : attributeBase oe "values" X.env (eval oe X.env) = eval oe X.env := by rfl) (hline : (apos.endLine == mpos.line) = true := by rfl)
    (hst : starEach [Expr.Call (.Attribute oe "values" apos) [] [] mpos] X.env = [(false, eval (Expr.Call (.Attribute oe "values" apos) [] [] mpos) X.env)] := by rfl) :
    VE ca W X (.Call (.Name "max" p) [.Call (.Attribute oe "values" apos) [] [] mpos] [] pos) (cMaxV fa) := by
  obtain ⟨t, pe, s⟩ := h
  refine ⟨_, pe_maxO hc hg hm pe hbase hline hst, fun B F env σ H Q st q => ?_⟩
  show t σ H fun x H1 => ∃ d n xs is, x = .ref d ∧ H1 d = some (DTO d (n, xs)) ∧ Paired (fun (e : List Int × Addr × Value) (j : Int) => ∃ t, e.2.2 = .int j t) xs is ∧ is ≠ [] ∧ ∀ m, m ∈ is → (∀ j ∈ is, j ≤ m) → Q (.int m) H1
  refine seqE (PostE X.K ca W σ F H Q) s st q (fun _ _ h => h) (fun h => h) fun r F1 H1 v p1 g1 q1 => ?_
  cases e1 : r.dt with
  | none => rw [e1] at p1; exact p1.elim
  | some kvs =>
    rw [e1] at p1
    simp only [rsO_some, Rs.bind_ok] at p1
    cases e2 : valsI kvs with
    | none => rw [e2] at p1; exact p1.elim
    | some is =>
      rw [e2] at p1
      simp only [rsO_some, Rs.bind_ok] at p1
      obtain ⟨d, n, xs, rfl, hd, kq⟩ := dt_ok q1 e1
      refine ⟨d, n, xs, is, rfl, hd, vals_ints kq e2, fun z => ?_, fun m h1 h2 => ?_⟩
      · subst z
        exact p1.elim
      · rw [maxL_of h1 h2] at p1
        exact p1 F1 H1 _ g1 (.int _)
end VL

namespace VL
open PySem PySem.Spec PyProof.Rows L2
/-! ## heaps: what heappush and heappop do, and that it is right -/
section
variable {α : Type} (lt : α → α → Bool)
def hUp : Nat → List α → Nat → List α
  | 0, xs, _ => xs
  | f + 1, xs, p => if 0 < p then (match xs[p]?, xs[(p - 1) / 2]? with
    | some x, some y => if lt x y = true then hUp f ((xs.set ((p - 1) / 2) x).set p y) ((p - 1) / 2) else xs
    | _, _ => xs) else xs
def hKid (xs : List α) (p : Nat) : Nat := if 2 * p + 1 + 1 < xs.length then (match xs[2 * p + 1]?, xs[2 * p + 1 + 1]? with
    | some l, some r => if lt l r = true then 2 * p + 1 else 2 * p + 1 + 1
    | _, _ => 2 * p + 1) else 2 * p + 1
def hDn : Nat → List α → Nat → List α
  | 0, xs, _ => xs
  | f + 1, xs, p => if p < xs.length / 2 then (match xs[hKid lt xs p]?, xs[p]? with
    | some x, some y => hDn f ((xs.set (hKid lt xs p) y).set p x) (hKid lt xs p)
    | _, _ => xs) else hUp lt (p + 1) xs p
def hPush (xs : List α) (x : α) : List α := hUp lt (xs.length + 1) (xs ++ [x]) xs.length
def hPop (xs : List α) : Option (α × List α) := match xs[0]?, xs[xs.length - 1]? with
  | some a, some b => if xs.length = 1 then some (b, []) else some (a, hDn lt xs.length (xs.dropLast.set 0 b) 0)
  | _, _ => none
/-- an order as heaps want it -/
structure HOrd (lt : α → α → Bool) : Prop where
  asym : ∀ x y, lt x y = true → lt y x = false
  tr : ∀ x y z, lt x y = false → lt y z = false → lt x z = false
def IsHp (xs : List α) : Prop := ∀ i x y, 0 < i → xs[i]? = some x → xs[(i - 1) / 2]? = some y → lt x y = false
structure UpI (xs : List α) (p : Nat) : Prop where
  a : ∀ i x y, 0 < i → i ≠ p → xs[i]? = some x → xs[(i - 1) / 2]? = some y → lt x y = false
  b : ∀ i x y, 0 < i → (i - 1) / 2 = p → 0 < p → xs[i]? = some x → xs[(p - 1) / 2]? = some y → lt x y = false
structure DnI (xs : List α) (p : Nat) : Prop where
  a : ∀ i x y, 0 < i → i ≠ p → (i - 1) / 2 ≠ p → xs[i]? = some x → xs[(i - 1) / 2]? = some y → lt x y = false
  b : ∀ i x y, 0 < i → (i - 1) / 2 = p → 0 < p → xs[i]? = some x → xs[(p - 1) / 2]? = some y → lt x y = false
variable {lt}
theorem swap_perm {xs : List α} {i j : Nat} {x y : α} (hi : xs[i]? = some x) (hj : xs[j]? = some y) : ((xs.set i y).set j x).Perm xs := by
  obtain ⟨li, rfl⟩ := List.getElem?_eq_some_iff.mp hi
  obtain ⟨lj, rfl⟩ := List.getElem?_eq_some_iff.mp hj
  exact List.set_set_perm li lj
theorem swap_at {xs : List α} {i j : Nat} {x y : α} (hi : i < xs.length) (hj : j < xs.length) (k : Nat) : ((xs.set i y).set j x)[k]? = if k = j then some x else if k = i then some y else xs[k]? := by
  by_cases c1 : k = j
  · subst c1
    rw [if_pos rfl, List.getElem?_set_self (by rw [List.length_set]; exact hj)]
  · rw [if_neg c1, List.getElem?_set_ne (fun z => c1 z.symm)]
    by_cases c2 : k = i
    · subst c2
      rw [if_pos rfl, List.getElem?_set_self hi]
    · rw [if_neg c2, List.getElem?_set_ne (fun z => c2 z.symm)]
theorem hUp_perm : ∀ (f : Nat) (xs : List α) (p : Nat), (hUp lt f xs p).Perm xs
  | 0, xs, p => List.Perm.refl _
  | f + 1, xs, p => by
    unfold hUp
    split
    · split
      · rename_i x y hx hy
        split
        · exact (hUp_perm f _ _).trans (swap_perm hy hx)
        · exact List.Perm.refl _
      · exact List.Perm.refl _
    · exact List.Perm.refl _
theorem hDn_perm : ∀ (f : Nat) (xs : List α) (p : Nat), (hDn lt f xs p).Perm xs
  | 0, xs, p => List.Perm.refl _
  | f + 1, xs, p => by
    unfold hDn
    split
    · split
      · rename_i x y hx hy
        exact (hDn_perm f _ _).trans (swap_perm hx hy)
      · exact List.Perm.refl _
    · exact hUp_perm _ _ _
theorem hUp_hp (O : HOrd lt) : ∀ (f : Nat) (xs : List α) (p : Nat), p < f → p < xs.length → UpI lt xs p → IsHp lt (hUp lt f xs p)
  | 0, _, _, h, _, _ => absurd h (Nat.not_lt_zero _)
  | f + 1, xs, p, hf, hp, u => by
    unfold hUp
    by_cases c : 0 < p
    · rw [if_pos c]
      have lq : (p - 1) / 2 < p := by omega
      have hx := List.getElem?_eq_getElem hp
      have hy := List.getElem?_eq_getElem (l := xs) (i := (p - 1) / 2) (by omega)
      rw [hx, hy]
      generalize xs[p] = x at *
      generalize xs[(p - 1) / 2]'(by omega) = y at *
      simp only
      by_cases l : lt x y = true
      · rw [if_pos l]
        have l2 := O.asym _ _ l
        refine hUp_hp O f _ _ (by omega) (by simp only [List.length_set]; omega) ⟨fun i a b hi hne ha hb => ?_, fun i a b hi hpar hq ha hb => ?_⟩
        · rw [swap_at (by omega) hp] at ha hb
          by_cases e1 : i = p
          · subst e1
            rw [if_pos rfl] at ha
            rw [if_neg (by omega), if_pos rfl] at hb
            cases ha; cases hb
            exact l2
          · rw [if_neg e1, if_neg hne] at ha
            by_cases e2 : (i - 1) / 2 = p
            · rw [if_pos e2] at hb
              cases hb
              exact u.b i a _ hi e2 c ha hy
            · rw [if_neg e2] at hb
              by_cases e3 : (i - 1) / 2 = (p - 1) / 2
              · rw [if_pos e3] at hb
                cases hb
                exact O.tr _ _ _ (u.a i a y hi e1 ha (by rw [e3]; exact hy)) l2
              · rw [if_neg e3] at hb
                exact u.a i a b hi e1 ha hb
        · rw [swap_at (by omega) hp] at ha hb
          rw [if_neg (by omega), if_neg (by omega)] at hb
          have hq2 := u.a ((p - 1) / 2) y b hq (by omega) hy hb
          by_cases e1 : i = p
          · subst e1
            rw [if_pos rfl] at ha
            cases ha
            exact hq2
          · rw [if_neg e1, if_neg (by omega)] at ha
            exact O.tr _ _ _ (u.a i a y hi e1 ha (by rw [hpar]; exact hy)) hq2
      · rw [if_neg l]
        intro i a b hi ha hb
        by_cases e1 : i = p
        · subst e1
          rw [hx] at ha
          rw [hy] at hb
          cases ha; cases hb
          simpa using l
        · exact u.a i a b hi e1 ha hb
    · rw [if_neg c]
      exact fun i a b hi ha hb => u.a i a b hi (by omega) ha hb
theorem hKid_spec (O : HOrd lt) (xs : List α) (p : Nat) (h : p < xs.length / 2) : (hKid lt xs p = 2 * p + 1 ∨ hKid lt xs p = 2 * p + 1 + 1) ∧ hKid lt xs p < xs.length ∧
    ∀ i x y, 0 < i → (i - 1) / 2 = p → xs[i]? = some x → xs[hKid lt xs p]? = some y → lt x y = false := by
  have irr : ∀ x : α, lt x x = false := fun x => by
    cases e : lt x x with
    | false => rfl
    | true => have := O.asym _ _ e; rw [e] at this; cases this
  unfold hKid
  by_cases c : 2 * p + 1 + 1 < xs.length
  · have h1 := List.getElem?_eq_getElem (l := xs) (i := 2 * p + 1) (by omega)
    have h2 := List.getElem?_eq_getElem c
    rw [if_pos c, h1, h2]
    generalize xs[2 * p + 1]'(by omega) = l at *
    generalize xs[2 * p + 1 + 1] = r at *
    simp only
    by_cases k : lt l r = true
    · rw [if_pos k]
      refine ⟨.inl rfl, by omega, fun i x y hi hpar hx hy => ?_⟩
      rw [h1] at hy
      cases hy
      have : i = 2 * p + 1 ∨ i = 2 * p + 1 + 1 := by omega
      rcases this with rfl | rfl
      · rw [h1] at hx; cases hx; exact irr _
      · rw [h2] at hx; cases hx; exact O.asym _ _ k
    · rw [if_neg k]
      refine ⟨.inr rfl, c, fun i x y hi hpar hx hy => ?_⟩
      rw [h2] at hy
      cases hy
      have : i = 2 * p + 1 ∨ i = 2 * p + 1 + 1 := by omega
      rcases this with rfl | rfl
      · rw [h1] at hx; cases hx; simpa using k
      · rw [h2] at hx; cases hx; exact irr _
  · rw [if_neg c]
    refine ⟨.inl rfl, by omega, fun i x y hi hpar hx hy => ?_⟩
    have := (List.getElem?_eq_some_iff.mp hx).1
    have : i = 2 * p + 1 := by omega
    subst this
    rw [hx] at hy
    cases hy
    exact irr _
theorem hDn_hp (O : HOrd lt) : ∀ (f : Nat) (xs : List α) (p : Nat), xs.length ≤ p + f → p < xs.length → DnI lt xs p → IsHp lt (hDn lt f xs p)
  | 0, xs, p, h, h2, _ => absurd h (by omega)
  | f + 1, xs, p, hf, hp, d => by
    unfold hDn
    by_cases c : p < xs.length / 2
    · rw [if_pos c]
      obtain ⟨k1, k2, k3⟩ := hKid_spec O xs p c
      generalize hKid lt xs p = q at *
      have hx := List.getElem?_eq_getElem k2
      have hy := List.getElem?_eq_getElem hp
      rw [hx, hy]
      generalize xs[q] = x at *
      generalize xs[p] = y at *
      simp only
      have qp : (q - 1) / 2 = p := by omega
      refine hDn_hp O f _ _ (by simp only [List.length_set]; omega) (by simp only [List.length_set]; exact k2) ⟨fun i a b hi hne hpar ha hb => ?_, fun i a b hi hpar hq ha hb => ?_⟩
      · rw [swap_at k2 hp] at ha hb
        by_cases e1 : i = p
        · subst e1
          rw [if_pos rfl] at ha
          rw [if_neg (by omega), if_neg hpar] at hb
          cases ha
          exact d.b q x b (by omega) qp hi hx hb
        · rw [if_neg e1, if_neg hne] at ha
          by_cases e2 : (i - 1) / 2 = p
          · rw [if_pos e2] at hb
            cases hb
            exact k3 i a x hi e2 ha hx
          · rw [if_neg e2, if_neg hpar] at hb
            exact d.a i a b hi e1 e2 ha hb
      · rw [swap_at k2 hp] at ha hb
        rw [if_neg (by omega), if_neg (by omega)] at ha
        rw [if_pos qp] at hb
        cases hb
        exact d.a i a x hi (by omega) (by omega) ha (by rw [hpar]; exact hx)
    · rw [if_neg c]
      refine hUp_hp O _ _ _ (Nat.lt_succ_self _) hp ⟨fun i a b hi hne ha hb => ?_, fun i a b hi hpar hq ha hb => ?_⟩
      · have := (List.getElem?_eq_some_iff.mp ha).1
        exact d.a i a b hi hne (by omega) ha hb
      · have := (List.getElem?_eq_some_iff.mp ha).1
        omega
theorem hPush_perm (xs : List α) (x : α) : (hPush lt xs x).Perm (x :: xs) := (hUp_perm _ _ _).trans (List.perm_append_singleton x xs)
theorem hPush_hp (O : HOrd lt) {xs : List α} (h : IsHp lt xs) (x : α) : IsHp lt (hPush lt xs x) := by
  refine hUp_hp O _ _ _ (Nat.lt_succ_self _) (by simp) ⟨fun i a b hi hne ha hb => ?_, fun i a b hi hpar hq ha hb => ?_⟩
  · have l := (List.getElem?_eq_some_iff.mp ha).1
    rw [List.length_append, List.length_singleton] at l
    rw [List.getElem?_append_left (by omega)] at ha hb
    exact h i a b hi ha hb
  · have l := (List.getElem?_eq_some_iff.mp ha).1
    rw [List.length_append, List.length_singleton] at l
    omega
theorem hp_root (O : HOrd lt) {xs : List α} (h : IsHp lt xs) {a : α} (h0 : xs[0]? = some a) : ∀ (i : Nat) (x : α), xs[i]? = some x → lt x a = false
  | i, x, hx => by
    by_cases c : i = 0
    · subst c
      rw [h0] at hx
      cases hx
      cases e : lt a a with
      | false => rfl
      | true => have := O.asym _ _ e; rw [e] at this; cases this
    · have l := (List.getElem?_eq_some_iff.mp hx).1
      have hy := List.getElem?_eq_getElem (l := xs) (i := (i - 1) / 2) (by omega)
      exact O.tr _ _ _ (h i x _ (by omega) hx hy) (hp_root O h h0 ((i - 1) / 2) _ hy)
termination_by i => i
theorem hPop_ok (O : HOrd lt) {xs : List α} (h : IsHp lt xs) (hne : xs ≠ []) : ∃ a ys, hPop lt xs = some (a, ys) ∧ xs.Perm (a :: ys) ∧ IsHp lt ys ∧ ∀ x ∈ xs, lt x a = false := by
  have l0 : 0 < xs.length := List.length_pos_iff.mpr hne
  have h0 := List.getElem?_eq_getElem l0
  have h1 := List.getElem?_eq_getElem (l := xs) (i := xs.length - 1) (by omega)
  have root : ∀ a, xs[0]? = some a → ∀ x ∈ xs, lt x a = false := fun a ha x hx => by
    obtain ⟨i, hi⟩ := List.mem_iff_getElem?.mp hx
    exact hp_root O h ha i x hi
  unfold hPop
  rw [h0, h1]
  simp only
  by_cases c : xs.length = 1
  · rw [if_pos c]
    obtain ⟨x, rfl⟩ := List.length_eq_one_iff.mp c
    exact ⟨x, [], rfl, List.Perm.refl _, fun i x y hi hx _ => by simp at hx, root x rfl⟩
  · rw [if_neg c]
    obtain ⟨a, r, rfl⟩ : ∃ a r, xs = a :: r := by
      cases xs with
      | nil => cases l0
      | cons a r => exact ⟨a, r, rfl⟩
    have rl : r ≠ [] := fun z => by rw [z] at c; exact c rfl
    have lst : (a :: r)[(a :: r).length - 1]'(by omega) = r.getLast rl := by
      rw [List.getLast_eq_getElem]
      cases r with
      | nil => exact absurd rfl rl
      | cons b r => rfl
    rw [lst]
    have dl : (a :: r).dropLast = a :: r.dropLast := List.dropLast_cons_of_ne_nil rl
    have st : ((a :: r).dropLast.set 0 (r.getLast rl)) = r.getLast rl :: r.dropLast := by rw [dl]; rfl
    rw [st]
    have pr : (r.getLast rl :: r.dropLast).Perm r := by
      have e := List.dropLast_concat_getLast rl
      have := (List.perm_append_singleton (r.getLast rl) r.dropLast).symm
      rwa [e] at this
    have ln : (r.getLast rl :: r.dropLast).length = r.length := pr.length_eq
    have rp : 0 < r.length := List.length_pos_iff.mpr rl
    refine ⟨a, _, rfl, (((hDn_perm _ _ _).trans pr).symm).cons a, ?_, root a rfl⟩
    refine hDn_hp O _ _ _ (by rw [ln, List.length_cons]; omega) (by rw [ln]; exact rp) ⟨fun i x y hi hne hpar hx hy => ?_, fun i x y hi hpar hq => absurd hq (Nat.lt_irrefl _)⟩
    have li := (List.getElem?_eq_some_iff.mp hx).1
    rw [ln] at li
    obtain ⟨i', rfl⟩ : ∃ i', i = i' + 1 := ⟨i - 1, by omega⟩
    obtain ⟨j', hj'⟩ : ∃ j', (i' + 1 - 1) / 2 = j' + 1 := ⟨(i' + 1 - 1) / 2 - 1, by omega⟩
    have hx2 : (a :: r)[i' + 1]? = some x := by
      rw [List.getElem?_cons_succ] at hx ⊢
      rw [List.getElem?_dropLast] at hx
      split at hx
      · exact hx
      · cases hx
    have hy2 : (a :: r)[(i' + 1 - 1) / 2]? = some y := by
      rw [hj'] at hy ⊢
      rw [List.getElem?_cons_succ] at hy ⊢
      rw [List.getElem?_dropLast] at hy
      split at hy
      · exact hy
      · cases hy
    exact h (i' + 1) x y hi hx2 hy2
end
/-! ## the builtins -/
namespace HQ
theorem entry_push : entryFor table "_heapq.heappush" = some Builtin.«_heapq.heappush» := entryFor_of_tree (by kernel_rfl)
theorem kind_push : builtinKind "_heapq.heappush" = none := by kernel_rfl
theorem plain_push : plainId "_heapq.heappush" = true := by decide +kernel
theorem args_push (a b : Value) : argsOk "_heapq.heappush" ⟨[a, b], []⟩ := by unfold argsOk; kernel_rfl
theorem entry_pop : entryFor table "_heapq.heappop" = some Builtin.«_heapq.heappop» := entryFor_of_tree (by kernel_rfl)
theorem kind_pop : builtinKind "_heapq.heappop" = none := by kernel_rfl
theorem plain_pop : plainId "_heapq.heappop" = true := by decide +kernel
theorem args_pop (a : Value) : argsOk "_heapq.heappop" ⟨[a], []⟩ := by unfold argsOk; kernel_rfl
theorem entry_sift : entryFor table "_heapq.heapify.sift" = some Builtin.«_heapq.heapify.sift» := entryFor_of_tree (by kernel_rfl)
theorem plain_sift : plainId "_heapq.heapify.sift" = true := by decide +kernel
end HQ
section
variable {prog : Program} {w : World} {A : Around} {E : Value → Shared → Prop} {s : Shared}
/-- a built-in function that goes on in other code -/
theorem call_fun {id : String} {B : Builtin} {args : List Value} {Q : Value → Shared → Prop} (kind : builtinKind id = none) (plain : plainId id = true) (entry : entryFor table id = some B) (ok : argsOk id ⟨args, []⟩)
    (hfin : wpAny (model prog w) A.in1 (B ⟨args, []⟩) (fun fin s' => match fin with | .done f => wants Q E (.ok f) s' | .again c' => c'.quiet = true ∧ codeAny (model prog w) A c' (wants Q E) s') (fun e s' => wants Q E (.error e) s') s) : wpAny (model prog w) A (call (.builtin id) args) Q E s := by
  refine wpAny_call (codeAny_call_builtin plain entry ?_)
  simp only [checkBuiltinCall, kind]
  cases hsig : Manifest.signature? id with
  | none => exact wpAny_pure hfin
  | some sig =>
    simp only [argsOk, hsig] at ok
    have h2 : Bind.checkArgs id sig ⟨args, []⟩ = pure () := ok
    show wpAny _ _ (Bind.checkArgs id sig ⟨args, []⟩) _ _ s
    rw [h2]; exact wpAny_pure hfin
end
section
open PySem.W PySem.SeqAt
/-- data that may lie in a heap -/
def hqOk (d : PyData) : Bool := decide (d.depth ≤ 40) && (match d with | .none => false | _ => true)
def alkAll (xs : List PyData) : Bool := (xs.all fun x => xs.all fun y => alike x y) && xs.all hqOk
theorem alk_at {xs : List PyData} (h : alkAll xs = true) {x y : PyData} (hx : x ∈ xs) (hy : y ∈ xs) : alike x y = true ∧ x ≠ .none ∧ x.depth ≤ 40 := by
  unfold alkAll at h
  rw [Bool.and_eq_true, List.all_eq_true, List.all_eq_true] at h
  have h1 := h.1 x hx
  rw [List.all_eq_true] at h1
  have h2 := h.2 x hx
  unfold hqOk at h2
  rw [Bool.and_eq_true, decide_eq_true_eq] at h2
  refine ⟨h1 y hy, fun z => ?_, h2.1⟩
  rw [z] at h2
  exact Bool.false_ne_true h2.2
theorem alk_perm {xs ys : List PyData} (h : alkAll xs = true) (p : ys.Perm xs) : alkAll ys = true := by
  unfold alkAll at h ⊢
  rw [Bool.and_eq_true, List.all_eq_true, List.all_eq_true] at h ⊢
  refine ⟨fun x hx => ?_, fun x hx => h.2 x (p.mem_iff.mp hx)⟩
  have := h.1 x (p.mem_iff.mp hx)
  rw [List.all_eq_true] at this ⊢
  exact fun y hy => this y (p.mem_iff.mp hy)
variable {X : Cx} {pins : List (Addr × Obj)} {σ : L2.St} {a : Addr} {H0 F : Hp} {A : Around} {res : Value} {R : Result → Shared → Prop}
/-- x < y of two members -/
theorem hq_lt {ws : List V} {ds : List PyData} {s : Shared} {H : Hp} (I : Inv X pins σ H s) (sF : Same F H) (q : DqA X.K F ws ds) (al : alkAll ds = true) {i j : Nat} {x y : PyData} {u v : Value} {its : List Value} (r : Vals ws its)
    (hi : ds[i]? = some x) (hj : ds[j]? = some y) (hu : its[i]? = some u) (hv : its[j]? = some v) (room : A.units + 41 < cLine) {E : Value → Shared → Prop} {Q : Value → Shared → Prop} (h : Q (.bool (dataLt x y)) s) : wpAny (model X.prog X.w) A (richCompare .Lt u v) Q E s := by
  obtain ⟨w1, e1, d1⟩ := q.get hi
  obtain ⟨w2, e2, d2⟩ := q.get hj
  obtain ⟨u', hu', r1⟩ := r.get e1
  obtain ⟨v', hv', r2⟩ := r.get e2
  rw [hu] at hu'; cases hu'
  rw [hv] at hv'; cases hv'
  obtain ⟨as, ra⟩ := Dp.reads I x w1 u (Dq.dp x w1 (Dq.mono sF x w1 d1)) r1
  obtain ⟨bs, rb⟩ := Dp.reads I y w2 v (Dq.dp y w2 (Dq.mono sF y w2 d2)) r2
  obtain ⟨z1, z2, z3⟩ := alk_at al (List.mem_of_getElem? hi) (List.mem_of_getElem? hj)
  exact rcLt_alike x y A s u v as bs ra rb z1 z2 (by omega) X.prog X.w E Q h
theorem hq_swap {ws : List V} {ds : List PyData} {s : Shared} {its : List Value} {n i j : Nat} (I : Inv X pins σ (upd H0 a (.lst ws)) s) (q : DqA X.K F ws ds) (r : Vals ws its) (z : ws.length ≤ sizeLine)
    (e : s.heap.get? a = some { cls := .type "list", data := .seq its.toArray n }) {u v : Value} {x y : PyData} (hu : its[i]? = some u) (hv : its[j]? = some v) (hx : ds[i]? = some x) (hy : ds[j]? = some y) :
    ∃ ws', DqA X.K F ws' ((ds.set i y).set j x) ∧ ws'.length = ws.length ∧ Inv X pins σ (upd H0 a (.lst ws')) { s with heap := s.heap.update a (Obj.mapSeq fun xs => (xs.setIfInBounds i v).setIfInBounds j u) } := by
  obtain ⟨x', wx, dx⟩ := q.get hx
  obtain ⟨y', wy, dy⟩ := q.get hy
  obtain ⟨u', hu', rx⟩ := r.get wx
  obtain ⟨v', hv', ry⟩ := r.get wy
  rw [hu] at hu'; cases hu'
  rw [hv] at hv'; cases hv'
  refine ⟨(ws.set i y').set j x', DqA.set dx _ (DqA.set dy _ q), by simp, ?_⟩
  have I2 := I.lset (its' := (its.set i v).set j u) (ys := (ws.set i y').set j x') (f := fun xs => (xs.setIfInBounds i v).setIfInBounds j u) (t' := s.toks) upd_same e (by simp) (Vals.set rx _ (Vals.set ry _ r)) (by simpa using z)
  rwa [upd_upd] at I2
theorem hq_up (sF : ∀ ws, Same F (upd H0 a (.lst ws))) (room : A.in1.units + 41 < cLine) : ∀ (f p : Nat) (ws : List V) (ds : List PyData) (s : Shared), Inv X pins σ (upd H0 a (.lst ws)) s → DqA X.K F ws ds → alkAll ds = true → p < f → p < ws.length →
    (∀ ws' s', Inv X pins σ (upd H0 a (.lst ws')) s' → DqA X.K F ws' (hUp dataLt f ds p) → R (.ok (.ret res)) s') →
    codeAny (model X.prog X.w) A (.builtin "_heapq.heapify.sift" ⟨[.ref a, .bool false, .bool false, rawInt (p : Int), rawInt ((0 : Nat) : Int), res, rawInt (-1)], []⟩) R s
  | 0, p, ws, ds, s, I, q, al, hf, hp, k => absurd hf (Nat.not_lt_zero _)
  | f + 1, p, ws, ds, s, I, q, al, hf, hp, k => by
    obtain ⟨z, its, n, r, hl, e⟩ := I.lstM (l := a) (xs := ws) upd_same
    refine codeAny_builtin HQ.entry_sift ?_
    rw [Around.under_plainId HQ.plain_sift]
    unfold Builtin.«_heapq.heapify.sift»
    dsimp only [rawInt]
    refine wpAny_bind (wpAny_bind (wpAny_seqItems e rfl (wpAny_pure ?_)))
    rw [if_neg Bool.false_ne_true]
    simp only [Int.toNat_natCast]
    by_cases c : 0 < p
    · rw [if_pos (show p > 0 from c)]
      have lp : p < its.length := by omega
      have lq : (p - 1) / 2 < its.length := by omega
      have hx : its.toArray[p]? = some its[p] := by rw [List.getElem?_toArray]; exact List.getElem?_eq_getElem lp
      have hy : its.toArray[(p - 1) / 2]? = some its[(p - 1) / 2] := by rw [List.getElem?_toArray]; exact List.getElem?_eq_getElem lq
      refine wpAny_bind (show wpAny _ A.in1 (match its.toArray[p]? with | some v => pure v | none => _) _ _ _ from ?_)
      rw [hx]
      refine wpAny_pure (wpAny_bind (show wpAny _ A.in1 (match its.toArray[(p - 1) / 2]? with | some v => pure v | none => _) _ _ _ from ?_))
      rw [hy]
      refine wpAny_pure ?_
      rw [if_neg Bool.false_ne_true]
      have dl := q.length
      have gx := List.getElem?_eq_getElem (l := ds) (i := p) (by omega)
      have gy := List.getElem?_eq_getElem (l := ds) (i := (p - 1) / 2) (by omega)
      refine wpAny_bind (wpAny_bind (wpAny_holding (wpAny_bind (hq_lt I (sF ws) q al r gx gy (List.getElem?_eq_getElem lp) (List.getElem?_eq_getElem lq) room (wpAny_truthy_bool (wpAny_bind (wpAny_bind (wpAny_seqItems e rfl (wpAny_pure ?_)))))))))
      dsimp only
      rw [if_neg (by simp)]
      refine wpAny_pure ?_
      have hd : hUp dataLt (f + 1) ds p = if dataLt ds[p] ds[(p - 1) / 2] = true then hUp dataLt f ((ds.set ((p - 1) / 2) ds[p]).set p ds[(p - 1) / 2]) ((p - 1) / 2) else ds := by
        rw [hUp, if_pos c, gx, gy]
      by_cases l : dataLt ds[p] ds[(p - 1) / 2] = true
      · rw [if_pos l] at hd ⊢
        rw [hd] at k
        refine wpAny_bind (wpAny_bind (wpAny_bind (wpAny_seqItems e rfl (wpAny_pure (wpAny_bind (show wpAny _ A.in1 (match its.toArray[(p - 1) / 2]? with | some v => pure v | none => _) _ _ _ from ?_))))))
        rw [hy]
        refine wpAny_pure (wpAny_bind (show wpAny _ A.in1 (match its.toArray[p]? with | some v => pure v | none => _) _ _ _ from ?_))
        rw [hx]
        refine wpAny_pure (wpAny_updateSeq e rfl ?_ (by rw [List.size_toArray]; omega) (by simp only [Array.size_setIfInBounds, List.size_toArray]; omega))
        obtain ⟨ws2, q2, l2, I2⟩ := hq_swap I q r z e (List.getElem?_eq_getElem lq) (List.getElem?_eq_getElem lp) gy gx
        have al2 := alk_perm al (swap_perm gy gx)
        refine wpAny_pure ⟨Code.quiet_builtin _ (by decide +kernel), ?_⟩
        exact hq_up sF room f ((p - 1) / 2) ws2 _ _ I2 q2 al2 (by omega) (by omega) k
      · rw [if_neg l] at hd ⊢
        rw [hd] at k
        rw [if_pos (by decide)]
        exact wpAny_pure (k ws s I q)
    · rw [if_neg (show ¬ p > 0 from c)]
      rw [if_pos (by decide)]
      refine wpAny_pure (k ws s I ?_)
      unfold hUp
      rw [if_neg c]
      exact q
theorem hq_dn (sF : ∀ ws, Same F (upd H0 a (.lst ws))) (room : A.in1.units + 41 < cLine) : ∀ (f p : Nat) (ws : List V) (ds : List PyData) (s : Shared), Inv X pins σ (upd H0 a (.lst ws)) s → DqA X.K F ws ds → alkAll ds = true → ws.length ≤ p + f → p < ws.length →
    (∀ ws' s', Inv X pins σ (upd H0 a (.lst ws')) s' → DqA X.K F ws' (hDn dataLt f ds p) → R (.ok (.ret res)) s') →
    codeAny (model X.prog X.w) A (.builtin "_heapq.heapify.sift" ⟨[.ref a, .bool false, .bool true, rawInt (p : Int), rawInt ((0 : Nat) : Int), res, rawInt (-1)], []⟩) R s
  | 0, p, ws, ds, s, I, q, al, hf, hp, k => absurd hf (by omega)
  | f + 1, p, ws, ds, s, I, q, al, hf, hp, k => by
    obtain ⟨z, its, n, r, hl, e⟩ := I.lstM (l := a) (xs := ws) upd_same
    refine codeAny_builtin HQ.entry_sift ?_
    rw [Around.under_plainId HQ.plain_sift]
    unfold Builtin.«_heapq.heapify.sift»
    dsimp only [rawInt]
    refine wpAny_bind (wpAny_bind (wpAny_seqItems e rfl (wpAny_pure ?_)))
    rw [if_pos rfl]
    simp only [Int.toNat_natCast]
    have zs : its.toArray.size = its.length := List.size_toArray ..
    have dl := q.length
    have lp : p < its.length := by omega
    have hx : its.toArray[p]? = some its[p] := by rw [List.getElem?_toArray]; exact List.getElem?_eq_getElem lp
    have gx := List.getElem?_eq_getElem (l := ds) (i := p) (by omega)
    by_cases c : p < its.length / 2
    · rw [if_pos (by rw [zs]; exact c)]
      by_cases c2 : 2 * p + 1 + 1 < its.length
      · rw [if_pos (by rw [zs]; exact c2)]
        have l1 : 2 * p + 1 < its.length := by omega
        have g1 := List.getElem?_eq_getElem (l := ds) (i := 2 * p + 1) (by omega)
        have g2 := List.getElem?_eq_getElem (l := ds) (i := 2 * p + 1 + 1) (by omega)
        refine wpAny_bind (show wpAny _ A.in1 (match its.toArray[2 * p + 1]? with | some v => pure v | none => _) _ _ _ from ?_)
        rw [show its.toArray[2 * p + 1]? = some its[2 * p + 1] by rw [List.getElem?_toArray]; exact List.getElem?_eq_getElem l1]
        refine wpAny_pure (wpAny_bind (show wpAny _ A.in1 (match its.toArray[2 * p + 1 + 1]? with | some v => pure v | none => _) _ _ _ from ?_))
        rw [show its.toArray[2 * p + 1 + 1]? = some its[2 * p + 1 + 1] by rw [List.getElem?_toArray]; exact List.getElem?_eq_getElem c2]
        refine wpAny_pure ?_
        rw [if_neg Bool.false_ne_true]
        refine wpAny_bind (wpAny_bind (wpAny_holding (wpAny_bind (hq_lt I (sF ws) q al r g1 g2 (List.getElem?_eq_getElem l1) (List.getElem?_eq_getElem c2) room (wpAny_truthy_bool (wpAny_bind (wpAny_bind (wpAny_seqItems e rfl (wpAny_pure ?_)))))))))
        dsimp only
        rw [if_neg (by simp)]
        refine wpAny_pure ?_
        have hk : hKid dataLt ds p = if dataLt ds[2 * p + 1] ds[2 * p + 1 + 1] = true then 2 * p + 1 else 2 * p + 1 + 1 := by
          rw [hKid, if_pos (by omega), g1, g2]
        by_cases l : dataLt ds[2 * p + 1] ds[2 * p + 1 + 1] = true
        · rw [if_pos l] at hk
          rw [if_neg (by rw [l]; decide)]
          refine wpAny_bind (wpAny_bind (wpAny_bind (wpAny_seqItems e rfl (wpAny_pure (wpAny_bind (show wpAny _ A.in1 (match its.toArray[2 * p + 1]? with | some v => pure v | none => _) _ _ _ from ?_))))))
          rw [show its.toArray[2 * p + 1]? = some its[2 * p + 1] by rw [List.getElem?_toArray]; exact List.getElem?_eq_getElem l1]
          refine wpAny_pure (wpAny_bind (show wpAny _ A.in1 (match its.toArray[p]? with | some v => pure v | none => _) _ _ _ from ?_))
          rw [hx]
          refine wpAny_pure (wpAny_updateSeq e rfl ?_ (by rw [List.size_toArray]; omega) (by simp only [Array.size_setIfInBounds, List.size_toArray]; omega))
          have gy := List.getElem?_eq_getElem (l := ds) (i := 2 * p + 1) (by omega)
          have hd : hDn dataLt (f + 1) ds p = hDn dataLt f ((ds.set (2 * p + 1) ds[p]).set p ds[2 * p + 1]) (2 * p + 1) := by
            rw [hDn, if_pos (by omega), hk, gx, gy]
          rw [hd] at k
          obtain ⟨ws2, q2, l2, I2⟩ := hq_swap I q r z e (List.getElem?_eq_getElem l1) (List.getElem?_eq_getElem lp) gy gx
          have al2 := alk_perm al (swap_perm gy gx)
          refine wpAny_pure ⟨Code.quiet_builtin _ (by decide +kernel), ?_⟩
          exact hq_dn sF room f (2 * p + 1) ws2 _ _ I2 q2 al2 (by omega) (by omega) k
        · rw [if_neg l] at hk
          rw [if_pos (by simp [l])]
          refine wpAny_bind (wpAny_bind (wpAny_bind (wpAny_seqItems e rfl (wpAny_pure (wpAny_bind (show wpAny _ A.in1 (match its.toArray[2 * p + 1 + 1]? with | some v => pure v | none => _) _ _ _ from ?_))))))
          rw [show its.toArray[2 * p + 1 + 1]? = some its[2 * p + 1 + 1] by rw [List.getElem?_toArray]; exact List.getElem?_eq_getElem c2]
          refine wpAny_pure (wpAny_bind (show wpAny _ A.in1 (match its.toArray[p]? with | some v => pure v | none => _) _ _ _ from ?_))
          rw [hx]
          refine wpAny_pure (wpAny_updateSeq e rfl ?_ (by rw [List.size_toArray]; omega) (by simp only [Array.size_setIfInBounds, List.size_toArray]; omega))
          have gy := List.getElem?_eq_getElem (l := ds) (i := 2 * p + 1 + 1) (by omega)
          have hd : hDn dataLt (f + 1) ds p = hDn dataLt f ((ds.set (2 * p + 1 + 1) ds[p]).set p ds[2 * p + 1 + 1]) (2 * p + 1 + 1) := by
            rw [hDn, if_pos (by omega), hk, gx, gy]
          rw [hd] at k
          obtain ⟨ws2, q2, l2, I2⟩ := hq_swap I q r z e (List.getElem?_eq_getElem c2) (List.getElem?_eq_getElem lp) gy gx
          have al2 := alk_perm al (swap_perm gy gx)
          refine wpAny_pure ⟨Code.quiet_builtin _ (by decide +kernel), ?_⟩
          exact hq_dn sF room f (2 * p + 1 + 1) ws2 _ _ I2 q2 al2 (by omega) (by omega) k
      · rw [if_neg (by rw [zs]; exact c2)]
        have l1 : 2 * p + 1 < its.length := by omega
        have hk : hKid dataLt ds p = 2 * p + 1 := by rw [hKid, if_neg (by omega)]
        refine wpAny_bind (wpAny_bind (wpAny_bind (wpAny_seqItems e rfl (wpAny_pure (wpAny_bind (show wpAny _ A.in1 (match its.toArray[2 * p + 1]? with | some v => pure v | none => _) _ _ _ from ?_))))))
        rw [show its.toArray[2 * p + 1]? = some its[2 * p + 1] by rw [List.getElem?_toArray]; exact List.getElem?_eq_getElem l1]
        refine wpAny_pure (wpAny_bind (show wpAny _ A.in1 (match its.toArray[p]? with | some v => pure v | none => _) _ _ _ from ?_))
        rw [hx]
        refine wpAny_pure (wpAny_updateSeq e rfl ?_ (by rw [List.size_toArray]; omega) (by simp only [Array.size_setIfInBounds, List.size_toArray]; omega))
        have gy := List.getElem?_eq_getElem (l := ds) (i := 2 * p + 1) (by omega)
        have hd : hDn dataLt (f + 1) ds p = hDn dataLt f ((ds.set (2 * p + 1) ds[p]).set p ds[2 * p + 1]) (2 * p + 1) := by
          rw [hDn, if_pos (by omega), hk, gx, gy]
        rw [hd] at k
        obtain ⟨ws2, q2, l2, I2⟩ := hq_swap I q r z e (List.getElem?_eq_getElem l1) (List.getElem?_eq_getElem lp) gy gx
        have al2 := alk_perm al (swap_perm gy gx)
        refine wpAny_pure ⟨Code.quiet_builtin _ (by decide +kernel), ?_⟩
        exact hq_dn sF room f (2 * p + 1) ws2 _ _ I2 q2 al2 (by omega) (by omega) k
    · rw [if_neg (by rw [zs]; exact c)]
      have hd : hDn dataLt (f + 1) ds p = hUp dataLt (p + 1) ds p := by rw [hDn, if_neg (by omega)]
      rw [hd] at k
      refine wpAny_pure ⟨Code.quiet_builtin _ (by decide +kernel), ?_⟩
      exact hq_up sF room (p + 1) p ws _ _ I q al (Nat.lt_succ_self _) hp k
end
section
open PySem.W PySem.SeqAt
variable {X : Cx}
def rHPush (K : PySem.W.Frag) : List V → Hp → VK → Prop := fun vs H Q => ∃ (a : Addr) (ws : List V) (ds : List PyData) (y : V) (d : PyData) (F : Hp), vs = [.ref a, y] ∧ H a = some (.lst ws) ∧ (∀ ws', Same F (upd H a (.lst ws'))) ∧ DqA K F ws ds ∧ Dq K F y d ∧ alkAll (d :: ds) = true ∧ ws.length ≤ 1000000 ∧
  ∀ ws', DqA K F ws' (hPush dataLt ds d) → Q .non (upd H a (.lst ws'))
theorem in1_units (A : Around) : A.in1.units = A.units + 1 := rfl
theorem cr_hpush (hu : X.A.units + 65 < cLine) : CallR X (.builtin "_heapq.heappush") (rHPush X.K) := by
  intro pins s σ H vs us Q I r h
  obtain ⟨a, ws, ds, y, d, F, rfl, hH, sF, q, dy, al, hz, k⟩ := h
  obtain ⟨u1, u, rfl, r1, ru⟩ := vals2 r
  cases r1
  obtain ⟨z, its, n, rv, hl, e⟩ := I.lstM hH
  have room : X.A.in1.units + 41 < cLine := by rw [in1_units]; omega
  have I2 := I.lset (its' := its ++ [u]) (ys := ws ++ [y]) (f := fun xs => xs.push u) (t' := s.toks) hH e (by simp) (rv.append (.cons ru .nil)) (by rw [List.length_append, List.length_singleton]; exact million hz)
  have e2 := PySem.IsL.update e (fun xs : Array Value => xs.push u)
  refine call_fun HQ.kind_push HQ.plain_push HQ.entry_push (HQ.args_push _ _) ?_
  unfold Builtin.«_heapq.heappush»
  refine wpAny_bind (wpAny_bind (m := noKeywords _ _) (wpAny_pure (wpAny_bind (m := checkCount _ _ _ _) (wpAny_pure (wpAny_bind (wpAny_bind (wpAny_isInstance ⟨_, e, rfl⟩ PySem.AutoSeq1.sub_list_list ?_)))))))
  dsimp only
  rw [if_pos rfl]
  refine wpAny_pure (wpAny_pure ?_)
  dsimp only
  refine wpAny_bind (wpAny_updateSeq e rfl ?_ (by rw [List.size_toArray]; omega) (by rw [Array.size_push, List.size_toArray]; omega))
  refine wpAny_bind (wpAny_bind (wpAny_seqItems e2 rfl (wpAny_pure ?_)))
  have sz : (its.toArray.push u).size - 1 = ws.length := by rw [Array.size_push, List.size_toArray]; omega
  rw [sz]
  have q2 : DqA X.K F (ws ++ [y]) (ds ++ [d]) := q.append (.cons dy .nil)
  have al2 : alkAll (ds ++ [d]) = true := alk_perm al (List.perm_append_singleton d ds)
  have dl := q.length
  refine wpAny_pure ⟨Code.quiet_builtin _ (by decide +kernel), ?_⟩
  refine hq_up (a := a) (H0 := H) (F := F) (A := X.A) (res := .none) sF room (ws.length + 1) ws.length (ws ++ [y]) (ds ++ [d]) _ I2 q2 al2 (Nat.lt_succ_self _) (by simp) fun ws' s' I' q' => ?_
  have e3 : hUp dataLt (ws.length + 1) (ds ++ [d]) ws.length = hPush dataLt ds d := by rw [dl]; rfl
  rw [e3] at q'
  exact ⟨.non, _, I', rfl, k ws' q'⟩
def rHPop (K : PySem.W.Frag) : List V → Hp → VK → Prop := fun vs H Q => ∃ (a : Addr) (ws : List V) (ds : List PyData) (d : PyData) (ys : List PyData) (F : Hp), vs = [.ref a] ∧ H a = some (.lst ws) ∧ (∀ ws', Same F (upd H a (.lst ws'))) ∧ DqA K F ws ds ∧ alkAll ds = true ∧ hPop dataLt ds = some (d, ys) ∧
  ∀ v ws', Dq K F v d → DqA K F ws' ys → Q v (upd H a (.lst ws'))
theorem cr_hpop (hu : X.A.units + 65 < cLine) : CallR X (.builtin "_heapq.heappop") (rHPop X.K) := by
  intro pins s σ H vs us Q I r h
  obtain ⟨a, ws, ds, d, ys, F, rfl, hH, sF, q, al, hp, k⟩ := h
  obtain ⟨u1, rfl, r1⟩ := vals1 r
  cases r1
  obtain ⟨z, its, n, rv, hl, e⟩ := I.lstM hH
  have room : X.A.in1.units + 41 < cLine := by rw [in1_units]; omega
  have dl := q.length
  obtain ⟨x0, h0, b, hb, hpe⟩ : ∃ x0, ds[0]? = some x0 ∧ ∃ b, ds[ds.length - 1]? = some b ∧ (if ds.length = 1 then some (b, []) else some (x0, hDn dataLt ds.length (ds.dropLast.set 0 b) 0)) = some (d, ys) := by
    unfold hPop at hp
    split at hp
    · rename_i x0 b h0 hb
      exact ⟨x0, h0, b, hb, hp⟩
    · cases hp
  obtain ⟨w0, hw0, dw0⟩ := q.get h0
  obtain ⟨wb, hwb, dwb⟩ := q.get hb
  obtain ⟨u0, hu0, ru0⟩ := rv.get hw0
  obtain ⟨ub, hub, rub⟩ := rv.get hwb
  have lpos : 0 < ds.length := (List.getElem?_eq_some_iff.mp h0).1
  have hbk : its.toArray.back? = some ub := by
    rw [List.back?_toArray, List.getLast?_eq_getElem?, ← hub]
    congr 1
    omega
  have e2 := PySem.IsL.update e (fun xs : Array Value => xs.pop)
  have I2 := I.lset (its' := its.dropLast) (ys := ws.dropLast) (f := fun xs => xs.pop) (t' := s.toks) hH e (by simp) rv.dropLast (by rw [List.length_dropLast]; omega)
  refine call_fun HQ.kind_pop HQ.plain_pop HQ.entry_pop (HQ.args_pop _) ?_
  unfold Builtin.«_heapq.heappop»
  refine wpAny_bind (wpAny_bind (wpAny_bind (m := noKeywords _ _) (wpAny_pure (wpAny_pure (wpAny_bind (wpAny_bind (wpAny_isInstance ⟨_, e, rfl⟩ PySem.AutoSeq1.sub_list_list ?_)))))))
  dsimp only
  rw [if_pos rfl]
  refine wpAny_pure (wpAny_pure ?_)
  dsimp only
  refine wpAny_bind (wpAny_bind (wpAny_seqItems e rfl (wpAny_pure ?_)))
  rw [hbk]
  dsimp only
  refine wpAny_bind (wpAny_updateSeq e rfl ?_ (by rw [List.size_toArray]; omega) (by rw [Array.size_pop, List.size_toArray]; omega))
  have zs : its.toArray.size = its.length := List.size_toArray ..
  by_cases c1 : ds.length = 1
  · rw [if_pos (by rw [zs, beq_iff_eq]; omega)]
    rw [if_pos c1] at hpe
    cases hpe
    refine wpAny_pure ⟨wb, _, I2, rub, k wb ws.dropLast dwb ?_⟩
    have : ws.dropLast = [] := List.eq_nil_of_length_eq_zero (by rw [List.length_dropLast]; omega)
    rw [this]
    exact .nil
  · rw [if_neg (by rw [zs, beq_iff_eq]; omega)]
    rw [if_neg c1] at hpe
    cases hpe
    have hx : its.toArray[0]? = some u0 := by rw [List.getElem?_toArray]; exact hu0
    refine wpAny_bind (show wpAny _ X.A.in1 (match its.toArray[0]? with | some v => pure v | none => _) _ _ _ from ?_)
    rw [hx]
    refine wpAny_pure ?_
    have e2' := e2
    rw [show its.toArray.pop = its.dropLast.toArray by simp] at e2'
    have I3 := I2.lset (its' := its.dropLast.set 0 ub) (ys := ws.dropLast.set 0 wb) (f := fun xs => xs.setIfInBounds 0 ub) (t' := s.toks) upd_same e2' (by simp) (Vals.set rub _ rv.dropLast) (by rw [List.length_set, List.length_dropLast]; omega)
    rw [upd_upd] at I3
    refine wpAny_bind (wpAny_updateSeq e2' rfl ?_ (by rw [List.size_toArray, List.length_dropLast]; omega) (by rw [Array.size_setIfInBounds, List.size_toArray, List.length_dropLast]; omega))
    have q3 : DqA X.K F (ws.dropLast.set 0 wb) (ds.dropLast.set 0 b) := DqA.set dwb _ (by rw [List.dropLast_eq_take, List.dropLast_eq_take, dl]; exact q.take _)
    have al3 : alkAll (ds.dropLast.set 0 b) = true := by
      unfold alkAll at al ⊢
      rw [Bool.and_eq_true, List.all_eq_true, List.all_eq_true] at al ⊢
      have sub : ∀ x ∈ ds.dropLast.set 0 b, x ∈ ds := fun x hx => by
        rcases List.mem_or_eq_of_mem_set hx with h | h
        · exact List.dropLast_subset _ h
        · rw [h]; exact List.mem_of_getElem? hb
      refine ⟨fun x hx => ?_, fun x hx => al.2 x (sub x hx)⟩
      have := al.1 x (sub x hx)
      rw [List.all_eq_true] at this ⊢
      exact fun y hy => this y (sub y hy)
    refine wpAny_pure ⟨Code.quiet_builtin _ (by decide +kernel), ?_⟩
    refine hq_dn (a := a) (H0 := H) (F := F) (A := X.A) (res := u0) sF room ds.length 0 (ws.dropLast.set 0 wb) (ds.dropLast.set 0 b) _ I3 q3 al3 (by rw [List.length_set, List.length_dropLast]; omega) (by rw [List.length_set, List.length_dropLast]; omega) fun ws' s' I' q' => ?_
    exact ⟨w0, _, I', ru0, k w0 ws' dw0 q'⟩
end
section
open PySem.W PySem.SeqAt
variable {ca : CA} {W : WX} {X : Cx} {a b e : Expr} {es : List Expr} {fa fb : VEnv → Rs RV} {pos : Pos}
theorem hq_same {F H : Hp} {p : Addr} (s : Same F H) (f : F p = none) (ws : List V) : Same F (upd H p (.lst ws)) := fun b o e => by
  rw [upd_ne (show b ≠ p from fun z => by rw [z, f] at e; cases e)]
  exact s b o e
/-- heappush(xs, e), xs a list of the def's own -/
def sHpush (i : Nat) (fe : VEnv → Rs RV) : VEnv → Out := fun env => match env[i]? with
  | some (some (.ol xs)) => (fe env).out env fun r => match r.toD with
    | some d => if xs.length ≤ 1000000 ∧ alkAll (d :: xs) = true then .nx (env.set i (some (.ol (hPush dataLt xs d)))) else .no
    | none => .no
  | _ => .no
theorem e_hpush (i : Nat) (fe : VEnv → Rs RV) (env : VEnv) : sHpush i fe env = match env[i]? with
  | some (some (.ol xs)) => (fe env).out env fun r => match r.toD with
    | some d => if xs.length ≤ 1000000 ∧ alkAll (d :: xs) = true then .nx (env.set i (some (.ol (hPush dataLt xs d)))) else .no
    | none => .no
  | _ => .no := rfl
theorem vs_hpush (i : Nat) {x f : Str} {p1 p2 p3 : Pos} (hu : X.A.units + 65 < cLine) (hg : Gl X f) (hm : X.mg f = some (.builtin "_heapq.heappush")) (he : VE ca W X e fa) (hN : X.N[i]? = some x := by rfl) (hv : Vis X.env.scope x := by first | exact Or.inl rfl | exact Or.inr (Or.inl rfl) | exact Or.inr (Or.inr rfl)) (hd : (x == ("__debug__" : Str)) = false := by decide) (hcd : (x == ("__classdict__" : Str)) = false := by decide) (hdb : (f == ("__debug__" : Str)) = false := by decide)
    (hs1 : starEach (.Name x p2 :: [e]) X.env = (false, eval (.Name x p2) X.env) :: starEach [e] X.env := by rfl) (hs2 : starEach (e :: []) X.env = (false, eval e X.env) :: starEach [] X.env := by rfl) (hpl : (backTo p3 (starEach [e] X.env)).any (·.1) = false := by rfl)
    (hsw : swapsWith (.Call (.Name f p1) [.Name x p2, e] [] p3) none pos.line X.env = pure false := by rfl) :
    VS ca W X (.Expr (.Call (.Name f p1) [.Name x p2, e] [] p3) pos) (sHpush i fa) := by
  obtain ⟨t, pe, se⟩ := he
  refine ⟨_, ps_expr (pe_callBfun (cr_hpush hu) hg hm (pa_cons (pe_var hN hv hd hcd) (pa_cons pe pa_nil hs2) hs1) hdb hs1 hpl) hsw, fun B F env σ H D st p => ?_⟩
  show ∃ v, σ[i]? = some (some v) ∧ t σ H fun y H1 => rHPush X.K [v, y] H1 fun _ H2 => D.nx σ H2
  unfold sHpush at p
  split at p
  · rename_i xs e1
    obtain ⟨a, vs, s1, n0, f0, hp, q⟩ := st.ownAt e1
    refine ⟨.ref a, s1, ?_⟩
    refine outE se st p fun r F1 H1 v p1 g q1 => ?_
    cases e2 : r.toD with
    | none => rw [e2] at p1; exact p1.elim
    | some d =>
      rw [e2] at p1
      simp only at p1
      split at p1
      · rename_i hz
        obtain ⟨F2, g2, s2, q2⟩ := frz g (Fz.of q1 e2)
        have st2 := st.grow g2
        have hp2 := g2.hh _ _ hp
        have f2 := g2.stillFree f0 hp
        refine ⟨a, vs, xs, v, d, F2, rfl, hp2, hq_same st2.cfg.sub f2, DqA.mono g2.ff _ _ q, q2, hz.2, by rw [q.length]; exact hz.1, fun ws' q' => ?_⟩
        exact p1 F2 σ _ s2 (st2.write (r1 := .ol (hPush dataLt xs d)) e1 rfl s1 hp2 n0 f2 (fun _ z => by cases z) ⟨a, _, rfl, n0, f2, upd_same, q'⟩ rfl)
      · exact p1.elim
  · exact p.elim
/-- a, b, .. = heappop(xs), xs a list of the def's own -/
def sHpop (g : Tg) (i : Nat) : VEnv → Out := fun env => match env[i]? with
  | some (some (.ol xs)) => if alkAll xs = true then (match hPop dataLt xs with
    | some (d, ys) => (match tgE g d (env.set i (some (.ol ys))) with
      | some env' => .nx env'
      | none => .no)
    | none => .no) else .no
  | _ => .no
theorem e_hpop (g : Tg) (i : Nat) (env : VEnv) : sHpop g i env = match env[i]? with
  | some (some (.ol xs)) => if alkAll xs = true then (match hPop dataLt xs with
    | some (d, ys) => (match tgE g d (env.set i (some (.ol ys))) with
      | some env' => .nx env'
      | none => .no)
    | none => .no) else .no
  | _ => .no := rfl
theorem vs_hpop (i : Nat) {x f : Str} {tg : Expr} {g : Tg} {p1 p2 p3 : Pos} (hu : X.A.units + 65 < cLine) (hg : Gl X f) (hm : X.mg f = some (.builtin "_heapq.heappop")) (ht : VG X tg g) (hN : X.N[i]? = some x := by rfl) (hv : Vis X.env.scope x := by first | exact Or.inl rfl | exact Or.inr (Or.inl rfl) | exact Or.inr (Or.inr rfl)) (hd : (x == ("__debug__" : Str)) = false := by decide) (hcd : (x == ("__classdict__" : Str)) = false := by decide) (hdb : (f == ("__debug__" : Str)) = false := by decide)
    (hs1 : starEach (.Name x p2 :: []) X.env = (false, eval (.Name x p2) X.env) :: starEach [] X.env := by rfl) (hpl : (backTo p3 (starEach [] X.env)).any (·.1) = false := by rfl)
    (hs : swapsWithSole [tg] (.Call (.Name f p1) [.Name x p2] [] p3) pos.line X.env = pure false := by rfl) (hw : swappedStores [tg] (.Call (.Name f p1) [.Name x p2] [] p3) X.env = pure none := by rfl)
    (h1 : (assignEach [tg] X.env).map (·.2) = [assign tg X.env] := by rfl) :
    VS ca W X (.Assign [tg] (.Call (.Name f p1) [.Name x p2] [] p3) pos) (sHpop g i) := by
  refine ⟨_, ps_asg (pe_callBfun (cr_hpop hu) hg hm (pa_cons (pe_var hN hv hd hcd) pa_nil hs1) hdb hs1 hpl) ht.ex hs hw h1, fun B F env σ H D st p => ?_⟩
  show ∃ v, σ[i]? = some (some v) ∧ rHPop X.K [v] H fun y H1 => tgT X.K g y σ H1 D.nx
  unfold sHpop at p
  split at p
  · rename_i xs e1
    obtain ⟨a, vs, s1, n0, f0, hp, q⟩ := st.ownAt e1
    split at p
    · rename_i hal
      cases e2 : hPop dataLt xs with
      | none => rw [e2] at p; exact p.elim
      | some dy =>
        obtain ⟨d, ys⟩ := dy
        rw [e2] at p
        simp only at p
        cases e3 : tgE g d (env.set i (some (.ol ys))) with
        | none => rw [e3] at p; exact p.elim
        | some env' =>
          rw [e3] at p
          refine ⟨.ref a, s1, a, vs, xs, d, ys, F, rfl, hp, hq_same st.cfg.sub f0, q, hal, e2, fun v ws' dv q' => ?_⟩
          have st2 := st.write (r1 := .ol ys) (o' := .lst ws') e1 rfl s1 hp n0 f0 (fun _ z => by cases z) ⟨a, _, rfl, n0, f0, upd_same, q'⟩ rfl
          exact snd_tg st2 dv e3 fun us st3 => p F _ _ (Same.refl _) st3
    · exact p.elim
  · exact p.elim
/-! ## a < b of data -/
def rLtD (K : PySem.W.Frag) : R2 := fun x y H Q => ∃ dx dy, Dp K H x dx ∧ Dp K H y dy ∧ alike dx dy = true ∧ hqOk dx = true ∧ Q (.bl (dataLt dx dy)) H
theorem op_ltD (hu : X.A.units + 65 < cLine) : OpR X (compareOp .Lt) (rLtD X.K) := by
  intro pins s σ H x y u v Q I rx ry h
  obtain ⟨dx, dy, h1, h2, al, ok, q⟩ := h
  obtain ⟨as, ra⟩ := Dp.reads I dx x u h1 rx
  obtain ⟨bs, rb⟩ := Dp.reads I dy y v h2 ry
  unfold hqOk at ok
  rw [Bool.and_eq_true, decide_eq_true_eq] at ok
  exact rcLt_alike dx dy X.A s u v as bs ra rb al (fun z => by rw [z] at ok; exact Bool.false_ne_true ok.2) (by omega) _ _ _ _ ⟨.bl _, H, I, rfl, q⟩
def gLtD : RV → RV → Rs RV := fun a b => (rsO a.data).bind fun x => (rsO b.data).bind fun y => if alike x y = true ∧ hqOk x = true then okB (dataLt x y) else .no
theorem s_ltD {K : PySem.W.Frag} : Op2S K ca (rLtD K) gLtD := by
  intro W σ F0 H0 F H v1 v2 a b Q gr h1 h2 p
  unfold gLtD at p
  cases e1 : a.data with
  | none => rw [e1] at p; exact p.elim
  | some x =>
    rw [e1] at p
    simp only [rsO_some, Rs.bind_ok] at p
    cases e2 : b.data with
    | none => rw [e2] at p; exact p.elim
    | some y =>
      rw [e2] at p
      simp only [rsO_some, Rs.bind_ok] at p
      split at p
      · rename_i c
        exact ⟨x, y, data_ok gr.cfg.sub h1 e1, data_ok gr.cfg.sub h2 e2, c.1, c.2, p F H _ gr (.bl _)⟩
      · exact p.elim
theorem e_ltD (a b : RV) : gLtD a b = (rsO a.data).bind fun x => (rsO b.data).bind fun y => if alike x y = true ∧ hqOk x = true then okB (dataLt x y) else .no := rfl
end
end VL

namespace VL
open PySem PySem.Spec PyProof.Rows L2 HT
/-! ## list(d), sorted(d) of a dict whose keys are tuples of ints -/
section
variable {X : Cx} {pins : List (Addr × Obj)} {σ : L2.St} {H : Hp} {s : Shared} {d : Addr} {n : Nat} {xs : List (List Int × Addr × Value)}
theorem dto_len (I : Inv X pins σ H s) (h : H d = some (DTO d (n, xs))) : xs.length ≤ sizeLine := by
  obtain ⟨⟨o, es, h1, h2, h3, h4, h5, h6, h7⟩, _⟩ := (show ObjOk X.prog X.w H s.heap d (.ext (DTOk d (n, xs))) from I.hok d _ h)
  exact h6
theorem acc_keys {es : Array DictEntry} {acc : Array Value} (g4 : es.size = xs.length) (g5 : ∀ (i : Nat) (e : List Int × Addr × Value), xs[i]? = some e → ∃ en : DictEntry, es[i]? = some en ∧ en.key = .ref e.2.1 ∧ en.val = e.2.2)
    (it : acc.size = es.size ∧ ∀ (j : Nat) (v : Value), acc[j]? = some v → ∃ en : DictEntry, es[j]? = some en ∧ v = en.key) : acc.toList = xs.map fun e => Value.ref e.2.1 := by
  have hl : acc.toList.length = xs.length := by rw [Array.length_toList, it.1, g4]
  apply List.ext_getElem?
  intro j
  rw [List.getElem?_map]
  cases hj : acc.toList[j]? with
  | none =>
    have h1 := List.getElem?_eq_none_iff.mp hj
    rw [List.getElem?_eq_none (by omega)]
    rfl
  | some v =>
    obtain ⟨en, hen, hv⟩ := it.2 j v (by rw [← Array.getElem?_toList]; exact hj)
    have lj := (List.getElem?_eq_some_iff.mp hj).1
    have hx := List.getElem?_eq_getElem (l := xs) (i := j) (by omega)
    obtain ⟨en', h1, h2, _⟩ := g5 j _ hx
    rw [hen] at h1
    cases h1
    rw [hx, hv, h2]
    rfl
end
def rListO : List V → Hp → VK → Prop := fun vs H Q => ∃ d n xs, vs = [V.ref d] ∧ H d = some (DTO d (n, xs)) ∧ ∀ p, H p = none → Q (.ref p) (upd H p (.lst (xs.map fun e => V.ref e.2.1)))
theorem call_listO {X : Cx} (hc : X.calm = true) : CallR X (.type "list") rListO := by
  intro pins s σ H vs us Q I r h
  obtain ⟨d, n, xs, rfl, hd, q⟩ := h
  obtain ⟨u, rfl, rx⟩ := vals1 r
  cases rx
  obtain ⟨g0, o, es, g1, g2, g3, g4, g5⟩ := dto_raw I hd
  have hz := dto_len I hd
  refine PySem.W.kdl_call (kdl_raw g0 g2 g3) (I.ok.hd hc) g1 (by rw [g4]; exact hz) fun h' tk acc' c' kp e it => ?_
  have ea := acc_keys g4 g5 it
  have eb : acc'.toList = (xs.map fun e => e.2.1).map Value.ref := by rw [ea, List.map_map]; rfl
  have ev : (xs.map fun e => V.ref e.2.1) = (xs.map fun e => e.2.1).map V.ref := by rw [List.map_map]; rfl
  have rv : Vals (xs.map fun e => V.ref e.2.1) acc'.toList := by rw [eb, ev]; exact vals_refs _
  refine ⟨.ref s.heap.objs.size, _, I.laid (t' := tk) (o := .lst (xs.map fun e => V.ref e.2.1)) kp (Nat.le_refl _) ?_, rfl, q _ (I.hok.fresh (Nat.le_refl _))⟩
  exact ⟨by rw [List.length_map]; exact hz, acc'.toList, c', rv, by rw [Array.toArray_toList]; exact e⟩
def gListK : List RV → Rs RV
  | [r] => (rsO r.dt).bind fun kvs => .ok (.ol (kvs.map fun e => .tuple (e.1.map .int)))
  | _ => .no
theorem e_listK (r : RV) : gListK [r] = (rsO r.dt).bind fun kvs => .ok (.ol (kvs.map fun e => .tuple (e.1.map .int))) := rfl
theorem c_listK {K : PySem.W.Frag} {ca : CA} : CaS K ca rListO gListK := by
  intro W σ F0 H0 F H vs as Q gr h p
  unfold gListK at p
  split at p
  · rename_i r
    obtain ⟨v, rfl, hx⟩ := pr1 h
    cases e : r.dt with
    | none => rw [e] at p; exact p.elim
    | some kvs =>
      rw [e] at p
      simp only [rsO_some, Rs.bind_ok] at p
      obtain ⟨q, n, xs, rfl, hq, kt⟩ := dt_ok hx e
      refine ⟨q, n, xs, rfl, hq, fun l hl => ?_⟩
      have g2 := Grow.newO gr.cfg (.lst (xs.map fun e => V.ref e.2.1)) hl (fun _ z => by cases z)
      exact p _ _ _ (gr.trans g2) ⟨l, _, rfl, none_n gr.hh hl, same_none gr.cfg.sub hl, upd_same, ktl_keys kt⟩
  · exact p.elim
/-! sorted(d) -/
def rSortedO (K : PySem.W.Frag) : List V → Hp → VK → Prop := fun vs H Q => ∃ d n xs, vs = [V.ref d] ∧ H d = some (DTO d (n, xs)) ∧ (∀ e ∈ xs, SqT K H e.2.1 (e.1.map V.int)) ∧
  ∀ (ys : List (List Int × Addr × Value)) p, ys.Perm xs → (ys.map (·.1)).Pairwise (fun a b => lxB b a = false) → H p = none → Q (.ref p) (upd H p (.lst (ys.map fun e => V.ref e.2.1)))
theorem perm_map_ex {α β : Type} {f : α → β} {xs : List α} {out : List β} (h : out.Perm (xs.map f)) : ∃ ys : List α, out = ys.map f ∧ ys.Perm xs := by
  induction out generalizing xs with
  | nil =>
    have := h.length_eq
    rw [List.length_map] at this
    rw [List.eq_nil_of_length_eq_zero this.symm]
    exact ⟨[], rfl, List.Perm.refl _⟩
  | cons b out ih =>
    obtain ⟨x, hx, rfl⟩ := List.mem_map.mp (h.mem_iff.mp List.mem_cons_self)
    obtain ⟨l, r, rfl⟩ := List.append_of_mem hx
    have h2 : (f x :: out).Perm (f x :: (l ++ r).map f) := by
      refine h.trans ?_
      rw [List.map_append, List.map_cons, List.map_append]
      exact List.perm_middle
    obtain ⟨ys, rfl, p⟩ := ih (List.Perm.cons_inv h2)
    exact ⟨x :: ys, rfl, (p.cons x).trans List.perm_middle.symm⟩
theorem cr_sortedO {X : Cx} (hc : X.calm = true) (hu : X.A.units + 65 < cLine) : CallR X (.builtin "sorted") (rSortedO X.K) := by
  intro pins s σ H vs us Q I r h
  obtain ⟨d, n, xs, rfl, hd, hT, q⟩ := h
  obtain ⟨u, rfl, rx⟩ := vals1 r
  cases rx
  obtain ⟨g0, o, es, g1, g2, g3, g4, g5⟩ := dto_raw I hd
  have hz := dto_len I hd
  refine Calls.call_function_entry PyProof.Rows.kind_sorted PyProof.Rows.plain_sorted PyProof.Rows.entry_sorted (PyProof.Rows.args_sorted1 _) ?_
  unfold Builtin.«sorted»
  refine wpAny_bind (m := checkCount "sorted" 1 1 _) (wpAny_pure ?_)
  refine wpAny_bind (PySem.W.kdu_collect (A := X.A.in1) (kdl_raw g0 g2 g3) (I.ok.hd hc) g1 (by rw [g4]; exact hz) fun h' tk acc hk it => ?_)
  have ea := acc_keys g4 g5 it
  have I1 : Inv X pins σ H { s with heap := h', toks := tk } := I.kept hk
  have hal : acc.toList.length = xs.length := by rw [ea, List.length_map]
  refine wpAny_bind (wpAny_newList ?_ (by rw [hal]; exact hz))
  have hoL : (h'.push (seqObj "list" acc.toList.toArray 0)).get? h'.objs.size = some (seqObj "list" acc.toList.toArray 0) := Heap.get?_push_size _ rfl
  show wpAny _ _ _ _ _ { s with heap := h'.push (seqObj "list" acc.toList.toArray 0), toks := tk }
  obtain ⟨kk, hkk⟩ : ∃ kk : Value → List Int, ∀ e ∈ xs, kk (.ref e.2.1) = e.1 := by
    classical
    refine ⟨fun v => if h : ∃ e ∈ xs, v = .ref e.2.1 then (Classical.choose h).1 else [], fun e he => ?_⟩
    have hex : ∃ e' ∈ xs, (Value.ref e.2.1) = .ref e'.2.1 := ⟨e, he, rfl⟩
    show (if h : ∃ e', e' ∈ xs ∧ Value.ref e.2.1 = .ref e'.2.1 then (Classical.choose h).1 else []) = e.1
    rw [dif_pos hex]
    obtain ⟨hm, hr⟩ := Classical.choose_spec hex
    generalize Classical.choose hex = e' at *
    have t1 := hT e he
    have t2 := hT e' hm
    have hr : e.2.1 = e'.2.1 := Value.ref.inj hr
    rw [hr] at t1
    exact int_inj (I.tuple_inj t2 t1)
  have tv : ∀ v ∈ acc.toList, TS.TupInts (h'.push (seqObj "list" acc.toList.toArray 0)) v (kk v) := fun v hv => by
    rw [ea] at hv
    obtain ⟨e, he, rfl⟩ := List.mem_map.mp hv
    obtain ⟨its, r2, hT2, _⟩ := I1.tuple (hT e he)
    rw [hkk e he]
    have : TS.TupInts h' (.ref e.2.1) e.1 := ⟨e.2.1, its.toArray, rfl, hT2, by
      have z := ints_are r2
      simpa using z⟩
    exact this.keeps fun b o e _ => Heap.get?_push_of_some _ e
  refine wpAny_bind (wpAny_holding (wpAny_call_entry PyProof.Rows.slot_list_sort ⟨_, hoL, rfl⟩ PyProof.Rows.entry_list_sort
    (SrtO.list_sort_ord (s := { s with heap := h'.push (seqObj "list" acc.toList.toArray 0), toks := tk }) (swo_lx kk) hoL (by rw [hal]; exact hz) (fun h2 => any_sortable (s := { s with heap := h'.push (seqObj "list" acc.toList.toArray 0), toks := tk }) (by rw [in1_units, in1_units]; omega) (by omega) tv fun o e c => by
      have e' : some o = some (seqObj "list" acc.toList.toArray 0) := e.symm.trans hoL
      cases e'
      exact absurd (Value.type.inj c) (by decide)) fun out hs hb => ⟨_, rfl, ?_⟩) (PyProof.Rows.args_list_sort _)))
  obtain ⟨e', he'⟩ := PyProof.Rows.sortedHeap_at (vs := acc.toList) (out := out.toArray) hoL
  have hp := hb.perm
  rw [ea] at hp
  obtain ⟨ys, rfl, py⟩ := perm_map_ex (f := fun e : List Int × Addr × Value => Value.ref e.2.1) hp
  have ev : (ys.map fun e => V.ref e.2.1) = (ys.map fun e => e.2.1).map V.ref := by rw [List.map_map]; rfl
  have ew : (ys.map fun e => Value.ref e.2.1) = (ys.map fun e => e.2.1).map Value.ref := by rw [List.map_map]; rfl
  have nn : H h'.objs.size = none := I1.hok.fresh (Nat.le_refl _)
  have rv : Vals (ys.map fun e => V.ref e.2.1) (ys.map fun e => Value.ref e.2.1) := by rw [ev, ew]; exact vals_refs _
  have so : (ys.map (·.1)).Pairwise (fun a b => lxB b a = false) := by
    have hs2 : (ys.map fun e => Value.ref e.2.1).Pairwise (fun a b => lxB (kk b) (kk a) = false) := hs
    rw [List.pairwise_map] at hs2 ⊢
    refine List.Pairwise.imp_of_mem (fun {a b} ha hb hab => ?_) hs2
    rw [hkk a (py.mem_iff.mp ha), hkk b (py.mem_iff.mp hb)] at hab
    exact hab
  refine wpAny_pure ⟨_, rfl, .ref h'.objs.size, upd H h'.objs.size (.lst (ys.map fun e => V.ref e.2.1)), I1.laid (t' := tk) (fun b u e => ?_) (Nat.le_refl _)
    (show ObjOk X.prog X.w _ _ _ (.lst (ys.map fun e => V.ref e.2.1)) from ⟨by rw [List.length_map, py.length_eq]; exact hz, _, e', rv, he'⟩), rfl, q ys _ py so nn⟩
  have hbb : b < h'.objs.size := Heap.lt_size e
  rw [PyProof.Rows.sortedHeap_old (Nat.ne_of_lt hbb) (by rw [size_push']; exact Nat.lt_succ_of_lt hbb)]
  exact Heap.get?_push_of_some _ e
def gSortK : List RV → Rs RV
  | [r] => (rsO r.dt).bind fun kvs => .ok (.ol ((isortT (kvs.map (·.1))).map fun k => .tuple (k.map .int)))
  | _ => .no
theorem e_sortK (r : RV) : gSortK [r] = (rsO r.dt).bind fun kvs => .ok (.ol ((isortT (kvs.map (·.1))).map fun k => .tuple (k.map .int))) := rfl
theorem ktl_fst {K : PySem.W.Frag} {F : Hp} : ∀ {xs : List (List Int × Addr × Value)} {kvs : List (List Int × PyData)}, KTl K F xs kvs → xs.map (·.1) = kvs.map (·.1) ∧ ∀ e ∈ xs, SqN K F e.2.1 (e.1.map V.int)
  | _, _, .nil => ⟨rfl, fun e he => (by cases he)⟩
  | _, _, .cons h r => by
    obtain ⟨h1, h2⟩ := ktl_fst r
    refine ⟨by rw [List.map_cons, List.map_cons, h1, h.1], fun e he => ?_⟩
    rcases List.mem_cons.mp he with rfl | he
    · exact h.2.1
    · exact h2 e he
theorem c_sortK {K : PySem.W.Frag} {ca : CA} : CaS K ca (rSortedO K) gSortK := by
  intro W σ F0 H0 F H vs as Q gr h p
  unfold gSortK at p
  split at p
  · rename_i r
    obtain ⟨v, rfl, hx⟩ := pr1 h
    cases e : r.dt with
    | none => rw [e] at p; exact p.elim
    | some kvs =>
      rw [e] at p
      simp only [rsO_some, Rs.bind_ok] at p
      obtain ⟨q, n, xs, rfl, hq, kt⟩ := dt_ok hx e
      obtain ⟨k1, k2⟩ := ktl_fst kt
      refine ⟨q, n, xs, rfl, hq, fun e he => same_seqT gr.cfg.sub (k2 e he).1, fun ys l py so hl => ?_⟩
      have e3 : ys.map (·.1) = isortT (kvs.map (·.1)) := sortedT_uniq (((py.map (·.1)).trans (by rw [k1])).trans (isortT_perm _).symm) so (isortT_sorted _)
      have g2 := Grow.newO gr.cfg (.lst (ys.map fun e => V.ref e.2.1)) hl (fun _ z => by cases z)
      have dq : DqA K F (ys.map fun e => V.ref e.2.1) ((isortT (kvs.map (·.1))).map fun k => .tuple (k.map .int)) := by
        rw [← e3, List.map_map]
        have : ∀ ys : List (List Int × Addr × Value), (∀ e ∈ ys, SqN K F e.2.1 (e.1.map V.int)) → DqA K F (ys.map fun e => V.ref e.2.1) (ys.map ((fun k : List Int => PyData.tuple (k.map .int)) ∘ fun e => e.1)) := by
          intro ys
          induction ys with
          | nil => intro _; exact .nil
          | cons y ys ih => intro hy; exact .cons (.tup (hy y List.mem_cons_self) (DqA.of_ints _)) (ih fun e he => hy e (List.mem_cons_of_mem _ he))
        exact this ys fun e he => k2 e (py.mem_iff.mp he)
      exact p _ _ _ (gr.trans g2) ⟨l, _, rfl, none_n gr.hh hl, same_none gr.cfg.sub hl, upd_same, dq⟩
  · exact p.elim
end VL

namespace VL
open PySem PySem.Spec PyProof.Rows L2 HT
/-! ## for over a slot's own dict whose keys are tuples of ints: the dict stands while it is walked -/
def plnO : Option RV → Bool
  | some (.bl _) | some (.bd _) | some (.bt _) | some (.bo _ _) | some (.ob _ _ _) => false
  | _ => true
def plnE (env : VEnv) : Bool := env.all plnO
def finD (i : Nat) : Out → Out
  | .nx env => if plnE (env.set i none) then .nx (env.set i none) else .no
  | .rt (.d x) => .rt (.d x)
  | _ => .no
def sForD (g : Tg) (i : Nat) (f : VEnv → Out) : VEnv → Out := fun env => match env[i]? with
  | some (some (RV.ot kvs)) => if plnE env then finD i (loopF g f (kvs.map fun e => .tuple (e.1.map .int)) (env.set i (some (.bt kvs)))) else .no
  | _ => .no
theorem e_forD (g : Tg) (i : Nat) (f : VEnv → Out) (env : VEnv) : sForD g i f env = match env[i]? with
  | some (some (RV.ot kvs)) => if plnE env then finD i (loopF g f (kvs.map fun e => .tuple (e.1.map .int)) (env.set i (some (.bt kvs)))) else .no
  | _ => .no := rfl
theorem plnE_cons (o : Option RV) (r : VEnv) : plnE (o :: r) = (plnO o && plnE r) := rfl
theorem plnE_nil : plnE [] = true := rfl
theorem finD_nx (i : Nat) (env : VEnv) (h : plnE (env.set i none) = true) : finD i (.nx env) = .nx (env.set i none) := by
  show (if _ then _ else _) = _
  rw [if_pos h]
theorem finD_rt (i : Nat) (x : PyData) : finD i (.rt (.d x)) = .rt (.d x) := rfl
theorem plnE_at {env : VEnv} (h : plnE env = true) {i : Nat} {r : RV} (e : env[i]? = some (some r)) : plnO (some r) = true :=
  List.all_eq_true.mp h _ (List.mem_of_getElem? e)
section
variable {ca : CA} {W : WX} {X : Cx} {pos : Pos} {K : PySem.W.Frag}
/-- the base with an own dict counted in -/
theorem Grow.down {F0 H0 F H : Hp} {p : Addr} {o : HO} (h0 : H0 p = none) (g : Grow F0 (upd H0 p o) F H) : Grow F0 H0 F H := by
  have old : ∀ b u, H0 b = some u → (upd H0 p o) b = some u := fun b u e => by
    rw [upd_ne (show b ≠ p from fun z => by rw [z, h0] at e; cases e)]
    exact e
  refine ⟨g.cfg, g.ff, ⟨fun a u e nt => g.hh.st a u (old a u e) nt, fun a ps e => g.hh.tb a ps (old a _ e)⟩, fun a u e => ?_⟩
  rcases g.nw a u e with h | h
  · exact .inl h
  · refine .inr ?_
    by_cases z : a = p
    · rw [z]; exact h0
    · rw [upd_ne z] at h; exact h
theorem Grow.upto {F0 H0 F H : Hp} {p : Addr} {o : HO} (nt : ∀ ps, o ≠ .tbl ps) (h0 : H0 p = none) (fp : F p = none) (hp : H p = some o) (g : Grow F0 H0 F H) : Grow F0 (upd H0 p o) F H := by
  refine ⟨g.cfg, g.ff, ⟨fun a u e nu => ?_, fun a ps e => ?_⟩, fun a u e => ?_⟩
  · by_cases z : a = p
    · subst z
      rw [upd_same] at e
      cases e
      exact hp
    · rw [upd_ne z] at e
      exact g.hh.st a u e nu
  · by_cases z : a = p
    · subst z
      rw [upd_same] at e
      exact absurd (Option.some.inj e) (nt ps)
    · rw [upd_ne z] at e
      exact g.hh.tb a ps e
  · rcases g.nw a u e with h | h
    · exact .inl h
    · refine .inr ?_
      by_cases z : a = p
      · rw [z, fp] at e; cases e
      · rw [upd_ne z]; exact h
theorem setD_at {env : VEnv} {i j : Nat} {o : Option RV} {r : RV} (e : (env.set i o)[j]? = some (some r)) : (i = j ∧ o = some r) ∨ (i ≠ j ∧ env[j]? = some (some r)) := by
  by_cases z : i = j
  · subst z
    rw [List.getElem?_set_self'] at e
    refine .inl ⟨rfl, ?_⟩
    cases h : env[i]? with
    | none => rw [h] at e; cases e
    | some _ => rw [h] at e; exact Option.some.inj e
  · rw [List.getElem?_set_ne z] at e
    exact .inr ⟨z, e⟩
/-- the slot's dict lent to the loop -/
theorem StOk.lend {B : Base} {F H : Hp} {env : VEnv} {σ : L2.St} (st : StOk K ca B F env σ H) {i : Nat} {kvs : List (List Int × PyData)} {p : Addr} {vs : Nat × List (List Int × Addr × Value)} (e : env[i]? = some (some (.ot kvs))) (pl : plnE env = true) (z : σ[i]? = some (some (.ref p)))
    (h0 : B.H p = none) (f0 : F p = none) (hp : H p = some (DTO p vs)) (kq : KTq K F vs kvs) : StOk K ca { B with H := upd B.H p (DTO p vs) } F (env.set i (some (.bt kvs))) σ H := by
  have pk : ∀ {j : Nat} {r : RV}, (env.set i (some (.bt kvs)))[j]? = some (some r) → (i = j ∧ r = .bt kvs) ∨ (i ≠ j ∧ env[j]? = some (some r) ∧ plnO (some r) = true) := fun {j r} e => by
    rcases setD_at e with ⟨a, b⟩ | ⟨a, b⟩
    · exact .inl ⟨a, (Option.some.inj b).symm⟩
    · exact .inr ⟨a, b, plnE_at pl b⟩
  refine ⟨Grow.upto (fun ps z => by cases z) h0 f0 hp st.gr, by rw [List.length_set]; exact st.len, fun j r e1 => ?_, fun j r q e1 hb hq => ?_, fun j k r r' q jk e1 e2 o1 o2 hq => ?_, ⟨st.rg.tb, ?_, ?_, ?_, ?_⟩⟩
  · rcases pk e1 with ⟨rfl, rfl⟩ | ⟨ij, e2, p2⟩
    · exact ⟨_, z, p, vs, rfl, hp, kq⟩
    · obtain ⟨v, ev, h⟩ := st.sl j r e2
      refine ⟨v, ev, ?_⟩
      have ne : ∀ q, v = .ref q → r.own = true → q ≠ p := fun q hv ho hz => by
        subst hv; subst hz
        exact st.dis i j _ _ q ij e e2 rfl ho z ev
      cases r with
      | ol xs => obtain ⟨q, us, rfl, n0, rest⟩ := h; exact ⟨q, us, rfl, by show upd B.H p _ q = none; rw [upd_ne (ne q rfl rfl)]; exact n0, rest⟩
      | od xs => obtain ⟨q, us, rfl, n0, rest⟩ := h; exact ⟨q, us, rfl, by show upd B.H p _ q = none; rw [upd_ne (ne q rfl rfl)]; exact n0, rest⟩
      | ot xs => obtain ⟨q, us, rfl, n0, rest⟩ := h; exact ⟨q, us, rfl, by show upd B.H p _ q = none; rw [upd_ne (ne q rfl rfl)]; exact n0, rest⟩
      | ob me x fs => cases p2
      | _ => exact h
  · rcases pk e1 with ⟨rfl, rfl⟩ | ⟨ij, e2, p2⟩
    · rw [z] at hq
      cases hq
      exact ⟨_, upd_same⟩
    · cases r <;> first | (cases hb; done) | (cases p2; done)
  · rcases pk e1 with ⟨rfl, rfl⟩ | ⟨ij, e3, _⟩
    · cases o1
    · rcases pk e2 with ⟨rfl, rfl⟩ | ⟨ik, e4, _⟩
      · cases o2
      · exact st.dis j k r r' q jk e3 e4 o1 o2 hq
  · intro j k q q' me x fs r e1 z1 hq e2 o2
    rcases pk e1 with ⟨rfl, w⟩ | ⟨_, _, w⟩ <;> cases w
  · intro j k q q' q2 me me' x x' fs fs' jk e1 z1 e2 z2 hq
    rcases pk e1 with ⟨rfl, w⟩ | ⟨_, _, w⟩ <;> cases w
  · intro j q q' x fs e1 z1 hq
    rcases pk e1 with ⟨rfl, w⟩ | ⟨_, _, w⟩ <;> cases w
  · intro j x fs e1
    rcases pk e1 with ⟨rfl, w⟩ | ⟨_, _, w⟩ <;> cases w
/-- given back: the slot is empty -/
theorem StOk.back {B : Base} {F H : Hp} {env : VEnv} {σ : L2.St} {i : Nat} {p : Addr} {o : HO} (h0 : B.H p = none) (st : StOk K ca { B with H := upd B.H p o } F env σ H) (pl : plnE (env.set i none) = true) : StOk K ca B F (env.set i none) σ H := by
  have pk : ∀ {j : Nat} {r : RV}, (env.set i none)[j]? = some (some r) → (i ≠ j ∧ env[j]? = some (some r) ∧ plnO (some r) = true) := fun {j r} e => by
    have e0 := plnE_at pl e
    rcases setD_at e with ⟨a, b⟩ | ⟨a, b⟩
    · cases b
    · exact ⟨a, b, e0⟩
  have fr : ∀ q, (upd B.H p o) q = none → B.H q = none := fun q h => by
    by_cases w : q = p
    · rw [w]; exact h0
    · rw [upd_ne w] at h; exact h
  refine ⟨Grow.down h0 st.gr, by rw [List.length_set]; exact st.len, fun j r e1 => ?_, fun j r q e1 hb hq => ?_, fun j k r r' q jk e1 e2 o1 o2 hq => ?_, ⟨st.rg.tb, ?_, ?_, ?_, ?_⟩⟩
  · obtain ⟨ij, e2, p2⟩ := pk e1
    obtain ⟨v, ev, h⟩ := st.sl j r e2
    refine ⟨v, ev, ?_⟩
    cases r with
    | ol xs => obtain ⟨q, us, rfl, n0, rest⟩ := h; exact ⟨q, us, rfl, fr q n0, rest⟩
    | od xs => obtain ⟨q, us, rfl, n0, rest⟩ := h; exact ⟨q, us, rfl, fr q n0, rest⟩
    | ot xs => obtain ⟨q, us, rfl, n0, rest⟩ := h; exact ⟨q, us, rfl, fr q n0, rest⟩
    | ob me x fs => cases p2
    | _ => exact h
  · obtain ⟨ij, e2, p2⟩ := pk e1
    cases r <;> first | (cases hb; done) | (cases p2; done)
  · obtain ⟨_, e3, _⟩ := pk e1
    obtain ⟨_, e4, _⟩ := pk e2
    exact st.dis j k r r' q jk e3 e4 o1 o2 hq
  · intro j k q q' me x fs r e1 z1 hq e2 o2
    obtain ⟨_, _, w⟩ := pk e1
    cases w
  · intro j k q q' q2 me me' x x' fs fs' jk e1 z1 e2 z2 hq
    obtain ⟨_, _, w⟩ := pk e1
    cases w
  · intro j q q' x fs e1 z1 hq
    obtain ⟨_, _, w⟩ := pk e1
    cases w
  · intro j x fs e1
    obtain ⟨_, _, w⟩ := pk e1
    cases w
theorem vs_forD {tg : Expr} {body : List Stmt} {g : Tg} {f : VEnv → Out} {x : Str} {p : Pos} (i : Nat) (hp : PassesOwn (model X.prog X.w) X.A X.env X.xe) (hc : X.calm = true) (hg : VG X tg g) (hb : VSs ca W X body f)
    (hN : X.N[i]? = some x := by rfl) (hv : Vis X.env.scope x := by first | exact Or.inl rfl | exact Or.inr (Or.inl rfl) | exact Or.inr (Or.inr rfl)) (hd : (x == ("__debug__" : Str)) = false := by decide)
    (hcd : (x == ("__classdict__" : Str)) = false := by decide) (hs : ∀ y, foldedSetIterable (.Name x p) X.env y = pure y := by intro _; rfl) : VS ca W X (.For tg (.Name x p) body [] pos) (sForD g i f) := by
  obtain ⟨tb, pb, sb⟩ := hb
  refine ⟨_, ps_for hp hc (pi_keysO (pe_var hN hv hd hcd)) hg.ex pb hs, fun B F env σ H D st q => ?_⟩
  unfold sForD at q
  split at q
  · rename_i kvs e
    split at q
    · rename_i pl
      obtain ⟨v, ev, a, us, rfl, h0, f0, hq, kq⟩ := st.sl i _ e
      obtain ⟨n, xs⟩ := us
      have st1 := st.lend e pl ev h0 f0 hq kq
      generalize hB : ({ B with H := upd B.H a (DTO a (n, xs)) } : Base) = B1 at st1
      have d1 : DqA X.K F (xs.map fun e => V.ref e.2.1) (kvs.map fun e => .tuple (e.1.map .int)) := ktl_keys kq
      have jw : JWalk (ItT a n xs) B1.H (xs.map fun e => V.ref e.2.1) := jw_dto (by rw [← hB]; exact upd_same)
      have post : PostS X.K ca W B1 F D (loopF g f (kvs.map fun e => .tuple (e.1.map .int)) (env.set i (some (.bt kvs)))) := by
        generalize loopF g f (kvs.map fun e => .tuple (e.1.map .int)) (env.set i (some (.bt kvs))) = o at q
        cases o with
        | nx env' =>
          replace q : PostS X.K ca W B F D (if plnE (env'.set i none) = true then .nx (env'.set i none) else .no) := q
          split at q
          · rename_i pl'
            intro F' σ' H' s st'
            rw [← hB] at st'
            exact q F' σ' H' s (st'.back h0 pl')
          · exact q.elim
        | rt r =>
          cases r with
          | d x =>
            intro F' H' v g' h'
            rw [← hB] at g'
            exact q F' H' v (Grow.down h0 g') h'
          | _ => exact q.elim
        | _ => exact q.elim
      generalize (kvs.map fun e => PyData.tuple (e.1.map .int)) = ks at d1 post
      generalize (xs.map fun e => V.ref e.2.1) = vs at d1 jw
      refine ⟨_, ev, a, n, xs, rfl, hq, ?_⟩
      refine ⟨fun j m σ H => m = vs.length - j ∧ j ≤ vs.length ∧ ∃ F' env', Same F F' ∧ StOk X.K ca B1 F' env' σ H ∧ PostS X.K ca W B1 F' D (loopF g f (ks.drop j) env'), ⟨_, rfl, Nat.zero_le _, F, _, Same.refl _, st1, post⟩, ?_⟩
      rintro j m σ2 H2 ⟨rfl, hj, F2, env2, s2, st2, p2⟩
      have s3 : SameN B1.H H2 := st2.gr.hh
      by_cases hlt : j < vs.length
      · obtain ⟨x, hx, qx⟩ := DqA.get' d1 (List.getElem?_eq_getElem hlt)
        rw [drop_cons hx] at p2
        unfold loopF at p2
        refine .inr ⟨jw.go j H2 s3 hlt, fun σ' H' => ∃ F' env', Same F F' ∧ StOk X.K ca B1 F' env' σ' H' ∧ PostS X.K ca W B1 F' D (loopF g f (ks.drop (j + 1)) env'), fun σ' H' z => ⟨vs.length - (j + 1), by omega, rfl, hlt, z⟩, fun y H' hy => ?_⟩
        obtain ⟨rfl, e2⟩ := jw.yld j H2 y H' s3 hy hlt
        rw [List.getElem?_eq_getElem hlt] at e2
        cases e2
        cases e3 : tgE g x env2 with
        | none => rw [e3] at p2; exact p2.elim
        | some env3 =>
          rw [e3] at p2
          simp only at p2
          refine snd_tg st2 (qx.mono s2) e3 fun ws st3 => ?_
          refine sb B1 F2 env3 _ _ _ st3 ?_
          cases e4 : f env3 with
          | nx env' => rw [e4] at p2; exact fun F' σ' H' s st' => ⟨F', env', s2.trans s, st', PostS.mono s p2⟩
          | ct env' => rw [e4] at p2; exact fun F' σ' H' s st' => ⟨F', env', s2.trans s, st', PostS.mono s p2⟩
          | bk env' => rw [e4] at p2; exact p2
          | rt r => rw [e4] at p2; exact p2
          | rm o d => rw [e4] at p2; exact p2
          | rp x fs d => rw [e4] at p2; exact p2
          | ex c fs env' => rw [e4] at p2; exact p2
          | no => rw [e4] at p2; exact p2
      · have e5 : j = vs.length := by omega
        subst e5
        rw [List.drop_eq_nil_of_le (by rw [d1.length]; exact Nat.le_refl _)] at p2
        exact .inl ⟨jw.stop H2 s3, p2 F2 σ2 H2 (Same.refl _) st2⟩
    · exact q.elim
  · exact q.elim
end
end VL
namespace My
open PySem PySem.Spec PyProof.Rows L2 VL TL
def B__law_cell : VEnv → Out :=
  (sSeq (sIf (cB (c2 gLt (cV 1) (cA gLen (aC (cV 0) aN)))) (sRet (c2 gIx (cV 0) (cV 1))) sNil)
    (sRet (cC (.int 0))))
def F__law_cell : List RV → Rs RV := fnD 2 B__law_cell
def L0__law_draw : VEnv → Out :=
  (sSeq (sApp 4 (c2 gMod (cV 3) (cV 5)))
    (sSet 3 (c2 gDiv (cV 3) (cV 5))))
def L1__law_draw : VEnv → Out :=
  (sSeq (sSet 6 (c2 gMod (c2 gAdd (c2 gAdd (c2 gMul (cV 6) (cC (.int 48271))) (cC (.int 11))) (cV 7)) (cC (.int 2147483647))))
    (sSeq (sSet 6 (c2 gMod (c2 gAdd (c2 gMul (cV 6) (cC (.int 69621))) (cC (.int 3))) (cC (.int 2147483647))))
    (sApp 4 (c2 gMod (c2 gDiv (cV 6) (cC (.int 7))) (c2 gIx (cV 2) (cV 7))))))
def B__law_draw : VEnv → Out :=
  (sSeq (sSet 3 (cA (fun rs => if rs.length = 2 then F__law_cell (rs.map RV.arg) else .no) (aC (cV 0) (aC (cV 1) aN))))
    (sSeq (sIf (cB (c2 gLt (cV 3) (cC (.int 0)))) (sSet 3 (c1 gNeg (cV 3))) sNil)
    (sSeq (sSet 4 (cA gList aN))
    (sSeq (sIf (cB (c2 gGe (cV 3) (c2 gPow (cC (.int 10)) (cC (.int 18))))) (sSeq (sSet 3 (c2 gSub (cV 3) (c2 gPow (cC (.int 10)) (cC (.int 18)))))
    (sSeq (sFor (.nm 5) (iL (cV 2)) L0__law_draw)
    (sRetV 4))) sNil)
    (sSeq (sSet 6 (c2 gMod (c2 gAdd (c2 gAdd (cV 3) (cC (.int 1))) (c2 gMul (cC (.int 31)) (cV 1))) (cC (.int 2147483647))))
    (sSeq (sFor (.nm 7) (iR gR1 (aC (cA gLen (aC (cV 2) aN)) aN)) L1__law_draw)
    (sRetV 4)))))))
def F__law_draw : List RV → Rs RV := fnD 8 B__law_draw
def L0__law_task : VEnv → Out :=
  (sIf (bAnd (cB (c2 gEq (c2 gIx (cV 6) (c2 gAdd (cC (.int 1)) (cV 8))) (cC (.int 1)))) (bOr (cB (c2 gGt (c2 gIx (cV 6) (cC (.int 0))) (cC (.int 1)))) (cB (c2 gGe (c2 gAdd (cV 8) (cC (.int 2))) (cV 5))))) (sApp 7 (cV 8)) sNil)
def L1__law_task : VEnv → Out :=
  (sSeq (sSet 6 (cA (fun rs => if rs.length = 3 then F__law_draw (rs.map RV.arg) else .no) (aC (cV 0) (aC (c2 gAdd (c2 gAdd (cV 1) (cC (.int 1))) (cV 5)) (aC (cA gList (aC (cC (.int 4)) (aC (cC (.int 2)) (aC (cC (.int 2)) (aC (cC (.int 2)) (aC (cC (.int 2)) (aC (cC (.int 2)) (aC (cC (.int 2)) (aC (cC (.int 2)) (aC (cC (.int 2)) aN)))))))))) aN)))))
    (sSeq (sSet 7 (cA gList aN))
    (sSeq (sFor (.nm 8) (iR gR1 (aC (cV 5) aN)) L0__law_task)
    (sApp 4 (cA gTupleC (aC (cV 7) aN))))))
def L2__law_task : VEnv → Out :=
  (sIf (bAnd (cB (c2 gGt (c2 gIx (cV 3) (cC (.int 2))) (cC (.int 0)))) (cB (c2 gEq (c2 gMod (c2 gDiv (c2 gIx (cV 3) (cC (.int 1))) (c2 gIx (cA gList (aC (cC (.int 1)) (aC (cC (.int 2)) (aC (cC (.int 4)) (aC (cC (.int 8)) (aC (cC (.int 16)) (aC (cC (.int 32)) (aC (cC (.int 64)) (aC (cC (.int 128)) aN))))))))) (cV 5))) (cC (.int 2))) (cC (.int 1))))) (sApp 9 (cV 5)) sNil)
def B__law_task : VEnv → Out :=
  (sSeq (sSet 3 (cA (fun rs => if rs.length = 3 then F__law_draw (rs.map RV.arg) else .no) (aC (cV 0) (aC (cV 1) (aC (cA gList (aC (cV 2) (aC (cC (.int 256)) (aC (cC (.int 3)) aN)))) aN)))))
    (sSeq (sSet 4 (cA gList aN))
    (sSeq (sFor (.nm 5) (iR gR1 (aC (c2 gAdd (cC (.int 1)) (c2 gIx (cV 3) (cC (.int 0)))) aN)) L1__law_task)
    (sSeq (sSet 9 (cA gList aN))
    (sSeq (sFor (.nm 5) (iR gR1 (aC (cA gLen (aC (cV 4) aN)) aN)) L2__law_task)
    (sSeq (sIf (cB (c2 gEq (cA gLen (aC (cV 9) aN)) (cC (.int 0)))) (sSet 9 (cA gList (aC (c2 gSub (cA gLen (aC (cV 4) aN)) (cC (.int 1))) aN))) sNil)
    (sRet (cA gTupl (aC (cA gTupleC (aC (cV 4) aN)) (aC (cA gTupleC (aC (cV 9) aN)) aN))))))))))
def F__law_task : List RV → Rs RV := fnD 10 B__law_task
def L0__law_prices : VEnv → Out :=
  (sApp 4 (c2 gAdd (cC (.int 1)) (c2 gIx (cA gList (aC (c2 gIx (cV 3) (c2 gAdd (cC (.int 1)) (cV 5))) (aC (c2 gMod (c2 gIx (cV 3) (c2 gAdd (cC (.int 1)) (cV 5))) (cC (.int 3))) (aC (c2 gMod (c2 gIx (cV 3) (c2 gAdd (cC (.int 1)) (cV 5))) (cC (.int 9))) (aC (cC (.int 0)) aN))))) (c2 gIx (cV 3) (cC (.int 0))))))
def B__law_prices : VEnv → Out :=
  (sSeq (sSet 3 (cA (fun rs => if rs.length = 3 then F__law_draw (rs.map RV.arg) else .no) (aC (cV 0) (aC (cV 1) (aC (c2 gAdd (cA gList (aC (cC (.int 4)) aN)) (c2 gRep (cA gList (aC (cC (.int 1000)) aN)) (cC (.int 8)))) aN)))))
    (sSeq (sSet 4 (cA gList aN))
    (sSeq (sFor (.nm 5) (iR gR1 (aC (cV 2) aN)) L0__law_prices)
    (sRetV 4))))
def F__law_prices : List RV → Rs RV := fnD 6 B__law_prices
def L0_is_possible : VEnv → Out :=
  (sIf (cB (c2 gNotIn (cV 3) (cV 1))) (sRet (cC (.bool false))) sNil)
def B_is_possible : VEnv → Out :=
  (sSeq (sFor (.nm 3) (iA (c2 gIx (c2 gIx (cV 0) (cC (.int 0))) (cV 2))) L0_is_possible)
    (sRet (cC (.bool true))))
def F_is_possible : List RV → Rs RV := fnD 4 B_is_possible
def B_moved : VEnv → Out :=
  (sSeq (sIf (cB (c2 gIn (cV 1) (cV 0))) (sRet (cA gTupleC (aC (cLc (iAb (cV 0)) [2] (.nm 2) (cB (c2 gNe (cV 2) (cV 1))) (cV 2)) aN))) sNil)
    (sRet (cA gTupleC (aC (cA gSorted (aC (c2 gAdd (cA gListC (aC (cV 0) aN)) (cA gList (aC (cV 1) aN))) aN)) aN))))
def F_moved : List RV → Rs RV := fnD 3 B_moved
def L0_transitions : VEnv → Out :=
  (sIf (cB (cA (fun rs => if rs.length = 3 then F_is_possible (rs.map RV.arg) else .no) (aC (cV 0) (aC (cV 1) (aC (cV 4) aN))))) (sSeq (sSet 5 (cA (fun rs => if rs.length = 2 then F_moved (rs.map RV.arg) else .no) (aC (cV 1) (aC (cV 4) aN))))
    (sIf (cB (c2 gLe (cA gLen (aC (cV 5) aN)) (cV 2))) (sFz 5 (sApp 3 (cA gTupl (aC (cV 4) (aC (cV 5) aN))))) sNil)) sNil)
def B_transitions : VEnv → Out :=
  (sSeq (sSet 3 (cA gList aN))
    (sSeq (sFor (.nm 4) (iR gR1 (aC (cA gLen (aC (c2 gIx (cV 0) (cC (.int 0))) aN)) aN)) L0_transitions)
    (sRetV 3)))
def F_transitions : List RV → Rs RV := fnD 6 B_transitions
def L0_cheapest_ways : VEnv → Out :=
  (sIf (cB (c2 gNotInD (cV 10) (cV 3))) (sHpush 4 (cA gTupl (aC (c2 gAdd (cV 5) (c2 gIx (cV 2) (cV 9))) (aC (c2 gAdd (cV 6) (cC (.int 1))) (aC (c2 gAdd (cV 7) (cA gTupl (aC (cV 9) aN))) (aC (cV 10) aN)))))) sNil)
def L1_cheapest_ways : VEnv → Out :=
  (sSeq (sHpop (.tp [5, 6, 7, 8]) 4)
    (sIf (cB (c2 gNotInD (cV 8) (cV 3))) (sSeq (sStoreA 3 (cV 8) (cA gTupl (aC (cV 5) (aC (cV 7) aN))))
    (sFor (.tp [9, 10]) (iA (cA (fun rs => if rs.length = 3 then F_transitions (rs.map RV.arg) else .no) (aC (cV 0) (aC (cV 8) (aC (cV 1) aN))))) L0_cheapest_ways)) sNil))
def B_cheapest_ways : VEnv → Out :=
  (sSeq (sSet 3 cDT)
    (sSeq (sSet 4 (cA gList (aC (cA gTupl (aC (cC (.int 0)) (aC (cC (.int 0)) (aC (cA gTupl aN) (aC (cA gTupl aN) aN))))) aN)))
    (sSeq (sWhile 100000 (cB (c2 gGt (cA gLen (aC (cV 4) aN)) (cC (.int 0)))) L1_cheapest_ways)
    (sRetV 3))))
def F_cheapest_ways : List RV → Rs RV := fnD 11 B_cheapest_ways
def L0_price_certificate : VEnv → Out :=
  (sSeq (sStoreA 5 (cV 8) (c2 gIx (c2 gIxD (cV 3) (cV 8)) (cC (.int 0))))
    (sIf (cB (c2 gIsNot (cV 4) (cC .none))) (sStoreA 5 (cV 8) (cA gMin2 (aC (cV 4) (aC (c2 gIx (c2 gIxD (cV 3) (cV 8)) (cC (.int 0))) aN)))) sNil))
def L1_price_certificate : VEnv → Out :=
  (sIf (bOr (cB (c2 gIs (cV 4) (cC .none))) (cB (c2 gLt (c2 gIx (c2 gIxD (cV 3) (cV 6)) (cC (.int 0))) (cV 4)))) (sFor (.tp [7, 8]) (iA (cA (fun rs => if rs.length = 3 then F_transitions (rs.map RV.arg) else .no) (aC (cV 0) (aC (cV 6) (aC (cV 1) aN))))) L0_price_certificate) sNil)
def B_price_certificate : VEnv → Out :=
  (sSeq (sSet 3 (cA (fun rs => if rs.length = 3 then F_cheapest_ways (rs.map RV.arg) else .no) (aC (cV 0) (aC (cV 1) (aC (cV 2) aN)))))
    (sSeq (sSet 4 (cC .none))
    (sSeq (sIf (cB (c2 gInD (c2 gIx (cV 0) (cC (.int 1))) (cV 3))) (sSet 4 (c2 gIx (c2 gIxD (cV 3) (c2 gIx (cV 0) (cC (.int 1)))) (cC (.int 0)))) sNil)
    (sSeq (sSet 5 (cDisp1 (cA gTupl aN) (cC (.int 0))))
    (sSeq (sForD (.nm 6) 3 L1_price_certificate)
    (sSeq (sSet 9 (cLc (iAb (cA gSortK (aC (cV 5) aN))) [6] (.nm 6) bYes (cA gTupl (aC (cV 6) (aC (c2 gIxD (cV 5) (cV 6)) aN)))))
    (sRet (cA gTupl (aC (cV 1) (aC (cV 4) (aC (cA gTupleC (aC (cV 9) aN)) aN)))))))))))
def F_price_certificate : List RV → Rs RV := fnD 10 B_price_certificate
def B__law_can : VEnv → Out :=
  (sRet (cA gAll (aC (cLc (iT (c2 gIx (cV 0) (cV 2))) [3] (.nm 3) bYes (c2 gIn (cV 3) (cV 1))) aN)))
def F__law_can : List RV → Rs RV := fnD 4 B__law_can
def B__law_moved : VEnv → Out :=
  (sSeq (sIf (cB (c2 gIn (cV 1) (cV 0))) (sRet (cA gTupleC (aC (cLc (iT (cV 0)) [2] (.nm 2) (cB (c2 gNe (cV 2) (cV 1))) (cV 2)) aN))) sNil)
    (sRet (cA gTupleC (aC (cA gSorted (aC (c2 gAdd (cA gListC (aC (cV 0) aN)) (cA gList (aC (cV 1) aN))) aN)) aN))))
def F__law_moved : List RV → Rs RV := fnD 3 B__law_moved
def L0__law_costs : VEnv → Out :=
  (sIf (cB (cA (fun rs => if rs.length = 3 then F__law_can (rs.map RV.arg) else .no) (aC (cV 0) (aC (cV 7) (aC (cV 8) aN))))) (sSeq (sSet 9 (cA (fun rs => if rs.length = 2 then F__law_moved (rs.map RV.arg) else .no) (aC (cV 7) (aC (cV 8) aN))))
    (sSeq (sSet 10 (cA gTupl (aC (c2 gAdd (c2 gIx (c2 gIxD (cV 4) (cV 7)) (cC (.int 0))) (c2 gIx (cV 2) (cV 8))) (aC (c2 gAdd (c2 gIx (c2 gIxD (cV 4) (cV 7)) (cC (.int 1))) (cC (.int 1))) aN))))
    (sIf (bAnd (cB (c2 gLe (cA gLen (aC (cV 9) aN)) (cV 1))) (bOr (cB (c2 gNotInD (cV 9) (cV 4))) (cB (c2 gLtD (cV 10) (c2 gIxD (cV 4) (cV 9)))))) (sSeq (sStoreA 4 (cV 9) (cV 10))
    (sFz 9 (sApp 5 (cV 9)))) sNil))) sNil)
def L1__law_costs : VEnv → Out :=
  (sSeq (sSet 7 (c2 gIx (cV 5) (cV 6)))
    (sSeq (sSet 6 (c2 gAdd (cV 6) (cC (.int 1))))
    (sFor (.nm 8) (iR gR1 (aC (cA gLen (aC (cV 0) aN)) aN)) L0__law_costs)))
def B__law_costs : VEnv → Out :=
  (sSeq (sSet 4 cDT)
    (sSeq (sIf (cB (c2 gLe (cA gLen (aC (cV 3) aN)) (cV 1))) (sStoreA 4 (cV 3) (cA gTupl (aC (cC (.int 0)) (aC (cC (.int 0)) aN)))) sNil)
    (sSeq (sSet 5 (cA gListK (aC (cV 4) aN)))
    (sSeq (sSet 6 (cC (.int 0)))
    (sSeq (sWhile 100000 (cB (c2 gLt (cV 6) (cA gLen (aC (cV 5) aN)))) L1__law_costs)
    (sRetV 4))))))
def F__law_costs : List RV → Rs RV := fnD 11 B__law_costs
def L0__law_price_paper : VEnv → Out :=
  (sIf (cB (cA (fun rs => if rs.length = 3 then F__law_can (rs.map RV.arg) else .no) (aC (cV 0) (aC (cV 7) (aC (cV 8) aN))))) (sSeq (sSet 9 (cA (fun rs => if rs.length = 2 then F__law_moved (rs.map RV.arg) else .no) (aC (cV 7) (aC (cV 8) aN))))
    (sIf (cB (c2 gLe (cA gLen (aC (cV 9) aN)) (cV 2))) (sSeq (sStoreA 6 (cV 9) (c2 gIx (c2 gIxD (cV 4) (cV 9)) (cC (.int 0))))
    (sIf (cB (c2 gIsNot (cV 5) (cC .none))) (sStoreA 6 (cV 9) (cA gMin2 (aC (cV 5) (aC (c2 gIx (c2 gIxD (cV 4) (cV 9)) (cC (.int 0))) aN)))) sNil)) sNil)) sNil)
def L1__law_price_paper : VEnv → Out :=
  (sIf (bOr (cB (c2 gIs (cV 5) (cC .none))) (cB (c2 gLt (c2 gIx (c2 gIxD (cV 4) (cV 7)) (cC (.int 0))) (cV 5)))) (sFor (.nm 8) (iR gR1 (aC (cA gLen (aC (cV 0) aN)) aN)) L0__law_price_paper) sNil)
def B__law_price_paper : VEnv → Out :=
  (sSeq (sSet 4 (cA (fun rs => if rs.length = 4 then F__law_costs (rs.map RV.arg) else .no) (aC (cV 0) (aC (cV 2) (aC (cV 3) (aC (cA gTupl aN) aN))))))
    (sSeq (sSet 5 (cC .none))
    (sSeq (sIf (cB (c2 gInD (cV 1) (cV 4))) (sSet 5 (c2 gIx (c2 gIxD (cV 4) (cV 1)) (cC (.int 0)))) sNil)
    (sSeq (sSet 6 cDT)
    (sSeq (sStoreA 6 (cA gTupl aN) (cC (.int 0)))
    (sSeq (sForD (.nm 7) 4 L1__law_price_paper)
    (sRet (cA gTupl (aC (cV 2) (aC (cV 5) (aC (cA gTupleC (aC (cLc (iAb (cA gSortK (aC (cV 6) aN))) [10] (.nm 10) bYes (cA gTupl (aC (cV 10) (aC (c2 gIxD (cV 6) (cV 10)) aN)))) aN)) aN)))))))))))
def F__law_price_paper : List RV → Rs RV := fnD 11 B__law_price_paper
def L0_law : VEnv → Out :=
  (sSeq (sSet 2 (cA (fun rs => if rs.length = 3 then F__law_task (rs.map RV.arg) else .no) (aC (cV 0) (aC (c2 gMul (cC (.int 10)) (cV 1)) (aC (cC (.int 6)) aN)))))
    (sSeq (sFz 2 (sUnp (.tp [3, 4]) (cV 2)))
    (sSeq (sSet 5 (c2 gAdd (cC (.int 1)) (c2 gIx (cA (fun rs => if rs.length = 3 then F__law_draw (rs.map RV.arg) else .no) (aC (cV 0) (aC (c2 gAdd (c2 gMul (cC (.int 10)) (cV 1)) (cC (.int 7))) (aC (cA gList (aC (cC (.int 7)) aN)) aN)))) (cC (.int 0)))))
    (sSeq (sSet 6 (cA (fun rs => if rs.length = 3 then F__law_prices (rs.map RV.arg) else .no) (aC (cV 0) (aC (c2 gAdd (c2 gMul (cC (.int 10)) (cV 1)) (cC (.int 8))) (aC (cA gLen (aC (cV 3) aN)) aN)))))
    (sSeq (sFz 6 (sFz 5 (sFz 2 (sSet 7 (cA (fun rs => if rs.length = 3 then F_price_certificate (rs.map RV.arg) else .no) (aC (cV 2) (aC (cV 5) (aC (cV 6) aN))))))))
    (sFz 6 (sFz 5 (sIf (bOr (cB (c2 gNe (cV 7) (cA (fun rs => if rs.length = 4 then F__law_price_paper (rs.map RV.arg) else .no) (aC (cV 3) (aC (cV 4) (aC (cV 5) (aC (cV 6) aN))))))) (bOr (bNot (cB (c1 (gIsi "tuple") (cV 7)))) (bNot (cB (c1 (gIsi "tuple") (c2 gIx (cV 7) (cC (.int 2)))))))) (sRet (cC (.bool false))) sNil))))))))
def B_law : VEnv → Out :=
  (sSeq (sFor (.nm 1) (iR gR1 (aC (cA gMin2 (aC (cC (.int 4)) (aC (c2 gAdd (cC (.int 1)) (c2 gDiv (cA gLen (aC (cV 0) aN)) (cC (.int 10)))) aN))) aN)) L0_law)
    (sRet (cC (.bool true))))
def F_law : List RV → Rs RV := fnD 8 B_law
/-! ### cells and draws -/
def cell (ns : List Int) (k : Nat) : Int := ns.getD k 0
theorem cell_ok (ns : List Int) (k : Nat) : F__law_cell [.sc ns, .d (.int k)] = .ok (.d (.int (cell ns k))) := by
  unfold F__law_cell fnD B__law_cell
  simp [e_V]
  by_cases h : k < ns.length
  · simp [h, atI_lt, cell]
  · simp [h, cell]
/-- what the digits of a draw satisfy -/
structure Drawn (sizes ds : List Int) : Prop where
  len : ds.length = sizes.length
  lo : ∀ i (h : i < ds.length), 0 ≤ ds[i]
  hi : ∀ i (h : i < ds.length) (h' : i < sizes.length), ds[i] < sizes[i]
theorem Drawn.snoc {sizes ds : List Int} {s d : Int} (h : Drawn sizes ds) (h0 : 0 ≤ d) (h1 : d < s) : Drawn (sizes ++ [s]) (ds ++ [d]) := by
  refine ⟨by simp [h.len], fun i hi => ?_, fun i hi hi' => ?_⟩
  · by_cases c : i < ds.length
    · rw [List.getElem_append_left c]; exact h.lo i c
    · rw [List.getElem_append_right (by omega)]; simpa using h0
  · by_cases c : i < ds.length
    · rw [List.getElem_append_left c, List.getElem_append_left (by rw [← h.len]; exact c)]; exact h.hi i c _
    · rw [List.getElem_append_right (by omega), List.getElem_append_right (by rw [← h.len]; omega)]; simpa using h1
def Sizes (sizes : List Int) : Prop := ∀ s ∈ sizes, 0 < s ∧ s < 1073741824
/-- the loop of the first way -/
theorem draw_far (sizes : List Int) (hs : Sizes sizes) (a b : RV) (k : PyData) : ∀ (xs pre ds : List Int) (c : Int) (j5 j6 j7 : Option RV), pre ++ xs = sizes → Drawn pre ds → sizes.length ≤ 1000 → 0 ≤ c →
    ∃ (ds' : List Int) (c' : Int) (j5' : Option RV), loopF (.nm 5) (sSeq (sApp 4 (c2 gMod (cV 3) (cV 5))) (sSet 3 (c2 gDiv (cV 3) (cV 5)))) (xs.map .int) [some a, some b, some (.d k), some (.d (.int c)), some (.ol (ds.map .int)), j5, j6, j7] = .nx [some a, some b, some (.d k), some (.d (.int c')), some (.ol (ds'.map .int)), j5', j6, j7] ∧ Drawn sizes ds'
  | [], pre, ds, c, j5, j6, j7, e, h, hl, h0 => ⟨ds, c, j5, rfl, by rw [← e, List.append_nil]; exact h⟩
  | x :: xs, pre, ds, c, j5, j6, j7, e, h, hl, h0 => by
    have hx0 : 0 < x ∧ x < 1073741824 := hs x (by rw [← e]; simp)
    have hx : 0 < x ∧ x.natAbs < 1073741824 := by omega
    have hlen : ds.length ≤ 1000000 := by
      have : pre.length ≤ sizes.length := by (rw [← e]; simp)
      rw [h.len]; omega
    obtain ⟨ds', c', j5', e1, d1⟩ := draw_far sizes hs a b k xs (pre ++ [x]) (ds ++ [c % x]) (c / x) (some (.d (.int x))) j6 j7 (by rw [← e]; simp) (h.snoc (Int.emod_nonneg c (by omega)) (Int.emod_lt_of_pos c hx.1)) hl (Int.ediv_nonneg h0 (by omega))
    refine ⟨ds', c', j5', ?_, d1⟩
    rw [List.map_cons, loopF_cons]
    simp [e_app, e_V, hx, hlen]
    simpa using e1
/-- the loop of the second way -/
theorem draw_near (sizes : List Int) (hs : Sizes sizes) (a b : RV) (j3 j5 : Option RV) : ∀ (n i : Nat) (ds : List Int) (m : Int) (j7 : Option RV), i + n = sizes.length → Drawn (sizes.take i) ds → sizes.length ≤ 1000 → 0 ≤ m → m < 2147483647 →
    ∃ (ds' : List Int) (m' : Int) (j7' : Option RV), loopF (.nm 7) (sSeq (sSet 6 (c2 gMod (c2 gAdd (c2 gAdd (c2 gMul (cV 6) (cC (.int 48271))) (cC (.int 11))) (cV 7)) (cC (.int 2147483647))))
    (sSeq (sSet 6 (c2 gMod (c2 gAdd (c2 gMul (cV 6) (cC (.int 69621))) (cC (.int 3))) (cC (.int 2147483647))))
    (sApp 4 (c2 gMod (c2 gDiv (cV 6) (cC (.int 7))) (c2 gIx (cV 2) (cV 7)))))) ((List.range' i n).map fun k : Nat => .int (k : Int)) [some a, some b, some (.d (.list (sizes.map .int))), j3, some (.ol (ds.map .int)), j5, some (.d (.int m)), j7] = .nx [some a, some b, some (.d (.list (sizes.map .int))), j3, some (.ol (ds'.map .int)), j5, some (.d (.int m')), j7'] ∧ Drawn sizes ds'
  | 0, i, ds, m, j7, e, h, hl, h0, h1 => ⟨ds, m, j7, rfl, by rw [Nat.add_zero] at e; rw [e, List.take_length] at h; exact h⟩
  | n + 1, i, ds, m, j7, e, h, hl, h0, h1 => by
    have hi : i < sizes.length := by omega
    have hx : 0 < sizes[i] ∧ sizes[i] < 1073741824 := hs _ (List.getElem_mem hi)
    have hlen : ds.length ≤ 1000000 := by rw [h.len, List.length_take]; omega
    have q1 : 0 ≤ ((m * 48271 + 11 + (i : Int)) % 2147483647 * 69621 + 3) % 2147483647 := Int.emod_nonneg _ (by decide)
    have q2 : ((m * 48271 + 11 + (i : Int)) % 2147483647 * 69621 + 3) % 2147483647 < 2147483647 := Int.emod_lt_of_pos _ (by decide)
    have q3 : 0 ≤ (m * 48271 + 11 + (i : Int)) % 2147483647 := Int.emod_nonneg _ (by decide)
    have q4 : (m * 48271 + 11 + (i : Int)) % 2147483647 < 2147483647 := Int.emod_lt_of_pos _ (by decide)
    have et : sizes.take (i + 1) = sizes.take i ++ [sizes[i]] := by rw [List.take_add_one, List.getElem?_eq_getElem hi]; rfl
    obtain ⟨ds', m', j7', e1, d1⟩ := draw_near sizes hs a b j3 j5 n (i + 1) (ds ++ [((m * 48271 + 11 + (i : Int)) % 2147483647 * 69621 + 3) % 2147483647 / 7 % sizes[i]]) (((m * 48271 + 11 + (i : Int)) % 2147483647 * 69621 + 3) % 2147483647) (some (.d (.int i))) (by omega)
      (by rw [et]; exact h.snoc (Int.emod_nonneg _ (by omega)) (Int.emod_lt_of_pos _ hx.1)) hl q1 q2
    refine ⟨ds', m', j7', ?_, d1⟩
    rw [List.range'_succ, List.map_cons, loopF_cons]
    have b1 : m.natAbs < 18446744073709551616 := by omega
    have b2 : ((m * 48271 + 11 + (i : Int)) % 2147483647).natAbs < 18446744073709551616 := by omega
    have ea : atI (sizes.map PyData.int) (i : Int) = some (.int sizes[i]) := by rw [atI_lt (by omega) (by simpa using hi)]; simp [hi]
    simp [e_app, e_V, hlen, ea, hx, b1, b2]
    simpa using e1
/-- what follows the cell -/
def drawTail : VEnv → Out := (sSeq (sSet 4 (cA gList aN))
    (sSeq (sIf (cB (c2 gGe (cV 3) (c2 gPow (cC (.int 10)) (cC (.int 18))))) (sSeq (sSet 3 (c2 gSub (cV 3) (c2 gPow (cC (.int 10)) (cC (.int 18)))))
    (sSeq (sFor (.nm 5) (iL (cV 2)) (sSeq (sApp 4 (c2 gMod (cV 3) (cV 5)))
    (sSet 3 (c2 gDiv (cV 3) (cV 5)))))
    (sRetV 4))) sNil)
    (sSeq (sSet 6 (c2 gMod (c2 gAdd (c2 gAdd (cV 3) (cC (.int 1))) (c2 gMul (cC (.int 31)) (cV 1))) (cC (.int 2147483647))))
    (sSeq (sFor (.nm 7) (iR gR1 (aC (cA gLen (aC (cV 2) aN)) aN)) (sSeq (sSet 6 (c2 gMod (c2 gAdd (c2 gAdd (c2 gMul (cV 6) (cC (.int 48271))) (cC (.int 11))) (cV 7)) (cC (.int 2147483647))))
    (sSeq (sSet 6 (c2 gMod (c2 gAdd (c2 gMul (cV 6) (cC (.int 69621))) (cC (.int 3))) (cC (.int 2147483647))))
    (sApp 4 (c2 gMod (c2 gDiv (cV 6) (cC (.int 7))) (c2 gIx (cV 2) (cV 7)))))))
    (sRetV 4)))))
theorem draw_far' (ns : List Int) (k : Nat) (sizes : List Int) (hs : Sizes sizes) (hl : sizes.length ≤ 1000) (c : Int) (hf : 1000000000000000000 ≤ c) :
    ∃ ds : List Int, drawTail [some (.sc ns), some (.d (.int k)), some (.d (.list (sizes.map .int))), some (.d (.int c)), none, none, none, none] = .rt (.ol (ds.map .int)) ∧ Drawn sizes ds := by
  obtain ⟨ds', c', j5', e1, d1⟩ := draw_far sizes hs (.sc ns) (.d (.int k)) (.list (sizes.map .int)) sizes [] [] (c - 1000000000000000000) none none none (by simp) ⟨rfl, fun i h => by simp at h, fun i h => by simp at h⟩ hl (by omega)
  refine ⟨ds', ?_, d1⟩
  simp at e1
  unfold drawTail
  simp [e_V, hf, e1, e_retV]
theorem mix_ok (ns : List Int) (k : Nat) (sizes : List Int) (c : Int) : sSet 6 (c2 gMod (c2 gAdd (c2 gAdd (cV 3) (cC (.int 1))) (c2 gMul (cC (.int 31)) (cV 1))) (cC (.int 2147483647))) [some (.sc ns), some (.d (.int k)), some (.d (.list (sizes.map .int))), some (.d (.int c)), some (.ol []), none, none, none]
      = .nx [some (.sc ns), some (.d (.int k)), some (.d (.list (sizes.map .int))), some (.d (.int c)), some (.ol []), none, some (.d (.int ((c + 1 + 31 * (k : Int)) % 2147483647))), none] := by
  simp only [e_set, e_c2, e_V, List.getElem?_cons_zero, List.getElem?_cons_succ, Rs.bind_ok, e_bor1, e_cC, e_addI]
  rw [e_mul, if_pos (Or.inl (by decide))]
  simp only [Rs.bind_ok, e_addI]
  rw [e_mod, if_pos (by decide)]
  simp only [Rs.out_ok, e_putd]
  rw [if_pos (by show 6 < 8; decide)]
  rfl
theorem draw_near' (ns : List Int) (k : Nat) (sizes : List Int) (hs : Sizes sizes) (hl : sizes.length ≤ 1000) (c : Int) (hf : ¬ 1000000000000000000 ≤ c) :
    ∃ ds : List Int, drawTail [some (.sc ns), some (.d (.int k)), some (.d (.list (sizes.map .int))), some (.d (.int c)), none, none, none, none] = .rt (.ol (ds.map .int)) ∧ Drawn sizes ds := by
  obtain ⟨m, hm⟩ : ∃ m, m = (c + 1 + 31 * (k : Int)) % 2147483647 := ⟨_, rfl⟩
  have m0 : 0 ≤ m := by rw [hm]; exact Int.emod_nonneg _ (by decide)
  have m1 : m < 2147483647 := by rw [hm]; exact Int.emod_lt_of_pos _ (by decide)
  have hset := mix_ok ns k sizes c
  rw [← hm] at hset
  clear hm
  obtain ⟨ds', m', j7', e1, d1⟩ := draw_near sizes hs (.sc ns) (.d (.int k)) (some (.d (.int c))) none sizes.length 0 [] m none (by omega) ⟨rfl, fun i h => by simp at h, fun i h => by simp at h⟩ hl m0 m1
  refine ⟨ds', ?_, d1⟩
  rw [← List.range_eq_range', ← rngL_eq] at e1
  have hr : iR gR1 (aC (cA gLen (aC (cV 2) aN)) aN) [some (.sc ns), some (.d (.int k)), some (.d (.list (sizes.map .int))), some (.d (.int c)), some (.ol []), none, some (.d (.int m)), none] = .ok (rngL 0 sizes.length) := by
    have b1 : (sizes.map PyData.int).length ≤ 1000000 := by rw [List.length_map]; omega
    have := e_R1n b1
    rw [List.length_map] at this
    simp only [e_iR, e_aC, e_cA, e_aN, e_V, List.getElem?_cons_succ, List.getElem?_cons_zero, Rs.bind_ok, e_bor1, e_lenL, List.length_map]
    exact this
  have hc : cB (c2 gGe (cV 3) (c2 gPow (cC (.int 10)) (cC (.int 18)))) [some (.sc ns), some (.d (.int k)), some (.d (.list (sizes.map .int))), some (.d (.int c)), some (.ol []), none, none, none] = .ok false := by
    simp [e_V, hf]
  have h4 : sSet 4 (cA gList aN) [some (.sc ns), some (.d (.int k)), some (.d (.list (sizes.map .int))), some (.d (.int c)), none, none, none, none] = .nx [some (.sc ns), some (.d (.int k)), some (.d (.list (sizes.map .int))), some (.d (.int c)), some (.ol []), none, none, none] := by simp
  unfold drawTail
  rw [e_seq, h4, Out.then_nx, e_seq, e_if, hc]
  simp only [Rs.out_ok, Bool.false_eq_true, if_false, e_nil, Out.then_nx]
  rw [e_seq, hset, Out.then_nx, e_seq, e_for, hr]
  simp only [Rs.out_ok]
  rw [show ([] : List PyData) = ([] : List Int).map .int from rfl, e1]
  simp [e_retV]
theorem draw_ok (ns : List Int) (k : Nat) (sizes : List Int) (hs : Sizes sizes) (hl : sizes.length ≤ 1000) : ∃ ds : List Int, F__law_draw [.sc ns, .d (.int k), .d (.list (sizes.map .int))] = .ok (.ol (ds.map .int)) ∧ Drawn sizes ds := by
  have eb : B__law_draw = sSeq (sSet 3 (cA (fun rs => if rs.length = 2 then F__law_cell (rs.map RV.arg) else .no) (aC (cV 0) (aC (cV 1) aN))))
    (sSeq (sIf (cB (c2 gLt (cV 3) (cC (.int 0)))) (sSet 3 (c1 gNeg (cV 3))) sNil) drawTail) := rfl
  unfold F__law_draw fnD
  rw [eb]
  have hc := cell_ok ns k
  generalize cell ns k = c at hc
  have step : ∀ c : Int, ∃ ds : List Int, drawTail [some (.sc ns), some (.d (.int k)), some (.d (.list (sizes.map .int))), some (.d (.int c)), none, none, none, none] = .rt (.ol (ds.map .int)) ∧ Drawn sizes ds := fun c => by
    by_cases hf : (1000000000000000000 : Int) ≤ c
    · exact draw_far' ns k sizes hs hl c hf
    · exact draw_near' ns k sizes hs hl c hf
  simp [e_V, hc]
  by_cases hn : c < 0
  · obtain ⟨ds, e1, d1⟩ := step (-c)
    refine ⟨ds, ?_, d1⟩
    simp [hn, e_V, e1]
  · obtain ⟨ds, e1, d1⟩ := step c
    refine ⟨ds, ?_, d1⟩
    simp [hn, e_V, e1]
/-! ### drawn tasks -/
theorem loopF_ex {β : Type} {tg : Tg} {f : VEnv → Out} (R : Nat → VEnv → Prop) (emb : β → PyData) (xs : List β) (env : VEnv)
    (h : ∀ i env x, xs[i]? = some x → R i env → ∃ e1, tgE tg (emb x) env = some e1 ∧ ∃ env', (f e1 = .nx env' ∨ f e1 = .ct env') ∧ R (i + 1) env') (h0 : R 0 env) : ∃ env', loopF tg f (xs.map emb) env = .nx env' ∧ R xs.length env' := by
  obtain ⟨env', e, r⟩ := loopF_rel (α := Unit) (fun i _ env => R i env) emb (fun _ _ => ()) xs () env (fun i _ env x hx r => h i env x hx r) h0
  exact ⟨env', e, r⟩
def natI (k : Nat) : PyData := .int (k : Int)
theorem rng_nat (n : Nat) : rngL 0 n = (List.range n).map natI := rngL_eq n
/-- ascending, from 0 to below b -/
structure Asc (b : Int) (xs : List Int) : Prop where
  up : xs.Pairwise (· < ·)
  lo : ∀ x ∈ xs, 0 ≤ x
  hi : ∀ x ∈ xs, x < b
theorem Asc.nil (b : Int) : Asc b [] := ⟨.nil, by simp, by simp⟩
theorem Asc.snoc {b x : Int} {xs : List Int} (h : Asc x xs) (h0 : 0 ≤ x) (h1 : x < b) : Asc b (xs ++ [x]) :=
  ⟨List.pairwise_append.mpr ⟨h.up, List.pairwise_singleton _ _, fun y hy z hz => by rw [List.mem_singleton.mp hz]; exact h.hi y hy⟩,
    fun y hy => by rcases List.mem_append.mp hy with z | z; exact h.lo y z; rw [List.mem_singleton.mp z]; exact h0,
    fun y hy => by rcases List.mem_append.mp hy with z | z; (have := h.hi y z; omega); rw [List.mem_singleton.mp z]; exact h1⟩
theorem Asc.mono {b c : Int} {xs : List Int} (h : Asc b xs) (e : b ≤ c) : Asc c xs := ⟨h.up, h.lo, fun x hx => Int.lt_of_lt_of_le (h.hi x hx) e⟩
theorem Asc.len {b : Nat} : ∀ {xs : List Int}, Asc b xs → xs.length ≤ b := by
  induction b with
  | zero => intro xs h; cases xs with
    | nil => simp
    | cons x xs => have := h.lo x List.mem_cons_self; have := h.hi x List.mem_cons_self; omega
  | succ b ih =>
    intro xs h
    rcases List.eq_nil_or_concat xs with rfl | ⟨ys, y, rfl⟩
    · simp
    · rw [List.concat_eq_append] at h ⊢
      have hu := List.pairwise_append.mp h.up
      have : Asc (b : Int) ys := ⟨hu.1, fun z hz => h.lo z (List.mem_append_left _ hz), fun z hz => by
        have h1 := hu.2.2 z hz y (List.mem_singleton.mpr rfl)
        have h2 := h.hi y (List.mem_append_right _ (List.mem_singleton.mpr rfl))
        omega⟩
      have := ih this
      simp
      omega
/-- a task: each step uses ascending earlier steps; ascending targets, at least one -/
structure WF (most : Nat) (us : List (List Int)) (ts : List Int) : Prop where
  one : 1 ≤ us.length
  len : us.length ≤ most
  use : ∀ (k : Nat) (u : List Int), us[k]? = some u → Asc k u
  tgt : Asc us.length ts
  some : ts ≠ []
theorem drawn_at {sizes ds : List Int} (h : Drawn sizes ds) {i : Nat} {s : Int} (hi : sizes[i]? = some s) : ∃ d, ds[i]? = some d ∧ 0 ≤ d ∧ d < s := by
  obtain ⟨h1, h2⟩ := List.getElem?_eq_some_iff.mp hi
  have h3 : i < ds.length := by rw [h.len]; exact h1
  exact ⟨ds[i], List.getElem?_eq_getElem h3, h.lo i h3, by rw [← h2]; exact h.hi i h3 h1⟩
theorem atI_ints {ds : List Int} {i : Nat} {d : Int} (h : ds[i]? = some d) : atI (ds.map PyData.int) (i : Int) = some (.int d) := by
  rw [atI_lt (by omega) (by simpa using (List.getElem?_eq_some_iff.mp h).1)]
  simp [h]
theorem range_at {n i x : Nat} (h : (List.range n)[i]? = some x) : x = i ∧ i < n := by
  have hi : i < n := by simpa using (List.getElem?_eq_some_iff.mp h).1
  rw [List.getElem?_range hi] at h
  exact ⟨(Option.some.inj h).symm, hi⟩
/-! ### draws as naturals -/
theorem draw_nat (ns : List Int) (k : Nat) (sz : List Nat) (hs : ∀ s ∈ sz, 0 < s ∧ s < 1000000) (hl : sz.length ≤ 1000) : ∃ nd : List Nat, F__law_draw [.sc ns, .d (.int k), .d (.list (sz.map natI))] = .ok (.ol (nd.map natI)) ∧ nd.length = sz.length ∧ ∀ (i s : Nat), sz[i]? = some s → ∃ d, nd[i]? = some d ∧ d < s := by
  obtain ⟨ds, e, dr⟩ := draw_ok ns k (sz.map fun n : Nat => (n : Int)) (by
    intro s hs'
    obtain ⟨n, hn, rfl⟩ := List.mem_map.mp hs'
    have := hs n hn
    omega) (by simpa using hl)
  have el : ds.length = sz.length := by have := dr.len; simpa using this
  have eds : ds = (ds.map Int.toNat).map fun n : Nat => (n : Int) := by
    rw [List.map_map]
    refine (List.map_id _).symm.trans (List.map_congr_left fun x hx => ?_)
    obtain ⟨i, hi, rfl⟩ := List.getElem_of_mem hx
    have := dr.lo i hi
    show ds[i] = ((ds[i].toNat : Nat) : Int)
    omega
  have m1 : (sz.map fun n : Nat => (n : Int)).map PyData.int = sz.map natI := by rw [List.map_map]; rfl
  have m2 : ds.map PyData.int = (ds.map Int.toNat).map natI := by
    conv => lhs; rw [eds]
    rw [List.map_map]; rfl
  rw [m1, m2] at e
  refine ⟨ds.map Int.toNat, e, by simpa using el, fun i s hi => ?_⟩
  obtain ⟨d, q1, q2, q3⟩ := drawn_at dr (i := i) (s := (s : Int)) (by rw [List.getElem?_map, hi]; rfl)
  exact ⟨d.toNat, by rw [List.getElem?_map, q1]; rfl, by omega⟩
theorem atI_nats {ds : List Nat} {i d : Nat} (h : ds[i]? = some d) : atI (ds.map natI) (i : Int) = some (natI d) := by
  rw [atI_lt (by omega) (by simpa using (List.getElem?_eq_some_iff.mp h).1)]
  simp [h]
theorem e_modN (a n : Nat) (h : 0 < n) : gMod (.d (.int a)) (.d (.int n)) = .ok (.d (.int ((a % n : Nat) : Int))) := by
  rw [e_mod, if_pos (by omega)]
  rfl
/-! ### tasks as data -/
def encU (us : List (List Int)) : List PyData := us.map fun u => .tuple (u.map .int)
def encT (us : List (List Int)) (ts : List Int) : PyData := .tuple [.tuple (encU us), .tuple (ts.map .int)]
def usAt (us : List (List Int)) (o : Int) : List Int := us.getD o.toNat []
theorem encU_len (us : List (List Int)) : (encU us).length = us.length := by simp [encU]
theorem encU_at (us : List (List Int)) {o : Int} (h0 : 0 ≤ o) (h1 : o < us.length) : atI (encU us) o = some (.tuple ((usAt us o).map .int)) := by
  have h : o.toNat < us.length := by omega
  rw [atI_lt h0 (by simpa [encU] using h1)]
  simp [encU, h, usAt]
theorem tk_in (a b c d e : Option RV) (k : Nat) (ds : List Int) (hd : ds.length = 9) (hk : k ≤ 8) (j8 j9 : Option RV) :
    ∃ row j8', loopF (.nm 8) L0__law_task ((List.range k).map natI) [a, b, c, d, e, some (.d (natI k)), some (.ol (ds.map .int)), some (.ol []), j8, j9] = .nx [a, b, c, d, e, some (.d (natI k)), some (.ol (ds.map .int)), some (.ol (row.map .int)), j8', j9] ∧ Asc k row := by
  obtain ⟨env', e1, row, j8', rfl, ha, _⟩ := loopF_ex (tg := .nm 8) (f := L0__law_task) (fun i env => ∃ row j8', env = [a, b, c, d, e, some (.d (natI k)), some (.ol (ds.map .int)), some (.ol (row.map .int)), j8', j9] ∧ Asc i row ∧ row.length ≤ i) natI (List.range k)
    [a, b, c, d, e, some (.d (natI k)), some (.ol (ds.map .int)), some (.ol []), j8, j9] (by
      rintro i env x hx ⟨row, j, rfl, ha, hl⟩
      have hi : i < k := by simpa using (List.getElem?_eq_some_iff.mp hx).1
      have ex : x = i := by rw [List.getElem?_range hi] at hx; exact (Option.some.inj hx).symm
      subst ex
      obtain ⟨d1, hd1⟩ : ∃ d1, ds[1 + x]? = some d1 := ⟨_, List.getElem?_eq_getElem (by omega)⟩
      obtain ⟨d0, hd0⟩ : ∃ d0, ds[0]? = some d0 := ⟨_, List.getElem?_eq_getElem (by omega)⟩
      have q1 : atI (ds.map PyData.int) (1 + (x : Int)) = some (.int d1) := by have := atI_ints hd1; simpa using this
      have q0 : atI (ds.map PyData.int) 0 = some (.int d0) := by have := atI_ints hd0; simpa using this
      refine ⟨_, rfl, ?_⟩
      have hstay : ∃ env', (sNil [a, b, c, d, e, some (.d (natI k)), some (.ol (ds.map .int)), some (.ol (row.map .int)), some (.d (natI x)), j9] = .nx env' ∨ sNil [a, b, c, d, e, some (.d (natI k)), some (.ol (ds.map .int)), some (.ol (row.map .int)), some (.d (natI x)), j9] = .ct env') ∧ ∃ row j8', env' = [a, b, c, d, e, some (.d (natI k)), some (.ol (ds.map .int)), some (.ol (row.map .int)), j8', j9] ∧ Asc (x + 1 : Nat) row ∧ row.length ≤ x + 1 :=
        ⟨_, .inl rfl, row, _, rfl, ha.mono (by omega), by omega⟩
      have hput : ∃ env', (sApp 7 (cV 8) [a, b, c, d, e, some (.d (natI k)), some (.ol (ds.map .int)), some (.ol (row.map .int)), some (.d (natI x)), j9] = .nx env' ∨ sApp 7 (cV 8) [a, b, c, d, e, some (.d (natI k)), some (.ol (ds.map .int)), some (.ol (row.map .int)), some (.d (natI x)), j9] = .ct env') ∧ ∃ row j8', env' = [a, b, c, d, e, some (.d (natI k)), some (.ol (ds.map .int)), some (.ol (row.map .int)), j8', j9] ∧ Asc (x + 1 : Nat) row ∧ row.length ≤ x + 1 := by
        refine ⟨[a, b, c, d, e, some (.d (natI k)), some (.ol (ds.map .int)), some (.ol ((row ++ [(x : Int)]).map .int)), some (.d (natI x)), j9], .inl ?_, _, _, rfl, ha.snoc (by omega) (by omega), by simp; omega⟩
        have : row.length ≤ 1000000 := by omega
        simp [e_app, e_V, this, natI]
      obtain ⟨t, ht⟩ : ∃ t, (bAnd (cB (c2 gEq (c2 gIx (cV 6) (c2 gAdd (cC (.int 1)) (cV 8))) (cC (.int 1)))) (bOr (cB (c2 gGt (c2 gIx (cV 6) (cC (.int 0))) (cC (.int 1)))) (cB (c2 gGe (c2 gAdd (cV 8) (cC (.int 2))) (cV 5))))) [a, b, c, d, e, some (.d (natI k)), some (.ol (ds.map .int)), some (.ol (row.map .int)), some (.d (natI x)), j9] = .ok t := by
        simp only [e_bAnd, e_bOr, e_cB, e_c2, e_V, List.getElem?_cons_succ, List.getElem?_cons_zero, Rs.bind_ok, e_bor1, e_bor2, natI, e_cC, e_addI, e_ixB, q1, q0, rsO_some, e_eq, e_data1, sh_int, and_self, if_true, eqv_int, e_okB, e_asB, e_gt, e_ge]
        by_cases c1 : d1 = 1
        · rw [decide_eq_true c1, if_pos rfl]
          by_cases c2 : (1 : Int) < d0
          · rw [decide_eq_true c2, if_pos rfl]; exact ⟨_, rfl⟩
          · rw [decide_eq_false c2, if_neg Bool.false_ne_true]; exact ⟨_, rfl⟩
        · rw [decide_eq_false c1, if_neg Bool.false_ne_true]; exact ⟨_, rfl⟩
      show ∃ env', (L0__law_task [a, b, c, d, e, some (.d (natI k)), some (.ol (ds.map .int)), some (.ol (row.map .int)), some (.d (natI x)), j9] = .nx env' ∨ L0__law_task [a, b, c, d, e, some (.d (natI k)), some (.ol (ds.map .int)), some (.ol (row.map .int)), some (.d (natI x)), j9] = .ct env') ∧ _
      unfold L0__law_task
      rw [e_if, ht, Rs.out_ok]
      cases t with
      | true => rw [if_pos rfl]; exact hput
      | false => rw [if_neg Bool.false_ne_true]; exact hstay) ⟨[], j8, rfl, Asc.nil _, by simp⟩
  rw [List.length_range] at ha
  exact ⟨row, j8', e1, ha⟩
def sz9 : List Int := [4, 2, 2, 2, 2, 2, 2, 2, 2]
theorem tk_out (ns : List Int) (at0 most : Nat) (hd : List Int) (m : Nat) (hm : m ≤ 8) (h9 : Option RV) :
    ∃ us j5 j6 j7 j8, loopF (.nm 5) L1__law_task ((List.range m).map natI) [some (.sc ns), some (.d (natI at0)), some (.d (natI most)), some (.ol (hd.map .int)), some (.ol []), none, none, none, none, h9]
      = .nx [some (.sc ns), some (.d (natI at0)), some (.d (natI most)), some (.ol (hd.map .int)), some (.ol (encU us)), j5, j6, j7, j8, h9] ∧ us.length = m ∧ ∀ (k : Nat) (u : List Int), us[k]? = some u → Asc k u := by
  obtain ⟨env', e1, us, j5, j6, j7, j8, rfl, hl, hu⟩ := loopF_ex (tg := .nm 5) (f := L1__law_task) (fun i env => ∃ us j5 j6 j7 j8, env = [some (.sc ns), some (.d (natI at0)), some (.d (natI most)), some (.ol (hd.map .int)), some (.ol (encU us)), j5, j6, j7, j8, h9] ∧ us.length = i ∧ ∀ (k : Nat) (u : List Int), us[k]? = some u → Asc k u) natI (List.range m)
    [some (.sc ns), some (.d (natI at0)), some (.d (natI most)), some (.ol (hd.map .int)), some (.ol []), none, none, none, none, h9] (by
      rintro i env x hx ⟨us, j5, j6, j7, j8, rfl, hl, hu⟩
      have hi : i < m := by simpa using (List.getElem?_eq_some_iff.mp hx).1
      have ex : x = i := by rw [List.getElem?_range hi] at hx; exact (Option.some.inj hx).symm
      subst ex
      obtain ⟨ds, hds, dr⟩ := draw_ok ns (at0 + 1 + x) sz9 (by unfold Sizes sz9; decide) (by decide)
      have e9 : ds.length = 9 := dr.len
      obtain ⟨row, j8', e2, ha⟩ := tk_in (some (.sc ns)) (some (.d (natI at0))) (some (.d (natI most))) (some (.ol (hd.map .int))) (some (.ol (encU us))) x ds e9 (by omega) j8 h9
      have hz : us.length ≤ 1000000 := by omega
      refine ⟨_, rfl, [some (.sc ns), some (.d (natI at0)), some (.d (natI most)), some (.ol (hd.map .int)), some (.ol (encU (us ++ [row]))), some (.d (natI x)), some (.ol (ds.map .int)), some (.ol (row.map .int)), j8', h9], .inl ?_, us ++ [row], _, _, _, _, rfl, by simp [hl], fun k u hk => ?_⟩
      · have s6 : sSet 6 (cA (fun rs => if rs.length = 3 then F__law_draw (rs.map RV.arg) else .no) (aC (cV 0) (aC (c2 gAdd (c2 gAdd (cV 1) (cC (.int 1))) (cV 5)) (aC (cA gList (aC (cC (.int 4)) (aC (cC (.int 2)) (aC (cC (.int 2)) (aC (cC (.int 2)) (aC (cC (.int 2)) (aC (cC (.int 2)) (aC (cC (.int 2)) (aC (cC (.int 2)) (aC (cC (.int 2)) aN)))))))))) aN))))
            [some (.sc ns), some (.d (natI at0)), some (.d (natI most)), some (.ol (hd.map .int)), some (.ol (encU us)), some (.d (natI x)), j6, j7, j8, h9] = .nx [some (.sc ns), some (.d (natI at0)), some (.d (natI most)), some (.ol (hd.map .int)), some (.ol (encU us)), some (.d (natI x)), some (.ol (ds.map .int)), j7, j8, h9] := by
          have : F__law_draw [.sc ns, .d (.int ((at0 : Int) + 1 + (x : Int))), .d (.list [.int 4, .int 2, .int 2, .int 2, .int 2, .int 2, .int 2, .int 2, .int 2])] = .ok (.ol (ds.map .int)) := by
            have e : ((at0 + 1 + x : Nat) : Int) = (at0 : Int) + 1 + (x : Int) := by omega
            rw [← e]; exact hds
          simp [e_V, natI, this]
        have s7 : sSet 7 (cA gList aN) [some (.sc ns), some (.d (natI at0)), some (.d (natI most)), some (.ol (hd.map .int)), some (.ol (encU us)), some (.d (natI x)), some (.ol (ds.map .int)), j7, j8, h9] = .nx [some (.sc ns), some (.d (natI at0)), some (.d (natI most)), some (.ol (hd.map .int)), some (.ol (encU us)), some (.d (natI x)), some (.ol (ds.map .int)), some (.ol []), j8, h9] := by simp
        have hr : iR gR1 (aC (cV 5) aN) [some (.sc ns), some (.d (natI at0)), some (.d (natI most)), some (.ol (hd.map .int)), some (.ol (encU us)), some (.d (natI x)), some (.ol (ds.map .int)), some (.ol []), j8, h9] = .ok ((List.range x).map natI) := by
          have := e_R1n (n := x) (by omega)
          rw [rng_nat] at this
          simp [e_V, natI, this]
        show sSeq _ _ [some (.sc ns), some (.d (natI at0)), some (.d (natI most)), some (.ol (hd.map .int)), some (.ol (encU us)), some (.d (natI x)), j6, j7, j8, h9] = _
        rw [e_seq, s6, Out.then_nx, e_seq, s7, Out.then_nx, e_seq, e_for, hr, Rs.out_ok, e2, Out.then_nx]
        simp [e_app, e_V, hz, encU]
      · by_cases c : k < us.length
        · rw [List.getElem?_append_left c] at hk; exact hu k u hk
        · rw [List.getElem?_append_right (by omega)] at hk
          have : k - us.length = 0 := by
            have := (List.getElem?_eq_some_iff.mp hk).1
            simp at this; omega
          rw [this] at hk
          cases hk
          have : k = us.length := by omega
          rw [this, hl]
          exact ha) ⟨[], none, none, none, none, rfl, rfl, by simp⟩
  rw [List.length_range] at hl
  exact ⟨us, j5, j6, j7, j8, e1, hl, hu⟩
def pows : List Int := [1, 2, 4, 8, 16, 32, 64, 128]
theorem tk_tgt (a b c : Option RV) (h0 h1 h2 : Int) (us : List (List Int)) (hl : us.length ≤ 8) (j5 j6 j7 j8 : Option RV) :
    ∃ ts j5', loopF (.nm 5) L2__law_task ((List.range us.length).map natI) [a, b, c, some (.ol ([h0, h1, h2].map .int)), some (.ol (encU us)), j5, j6, j7, j8, some (.ol [])] = .nx [a, b, c, some (.ol ([h0, h1, h2].map .int)), some (.ol (encU us)), j5', j6, j7, j8, some (.ol (ts.map .int))] ∧ Asc us.length ts := by
  obtain ⟨env', e1, ts, j5', rfl, ha, _⟩ := loopF_ex (tg := .nm 5) (f := L2__law_task) (fun i env => ∃ ts j5', env = [a, b, c, some (.ol ([h0, h1, h2].map .int)), some (.ol (encU us)), j5', j6, j7, j8, some (.ol (ts.map .int))] ∧ Asc i ts ∧ ts.length ≤ i) natI (List.range us.length)
    [a, b, c, some (.ol ([h0, h1, h2].map .int)), some (.ol (encU us)), j5, j6, j7, j8, some (.ol [])] (by
      rintro i env x hx ⟨ts, j, rfl, ha, hz⟩
      have hi : i < us.length := by simpa using (List.getElem?_eq_some_iff.mp hx).1
      have ex : x = i := by rw [List.getElem?_range hi] at hx; exact (Option.some.inj hx).symm
      subst ex
      obtain ⟨p, hp⟩ : ∃ p, pows[x]? = some p := ⟨_, List.getElem?_eq_getElem (by show x < 8; omega)⟩
      have hpp : 0 < p ∧ p.natAbs < 1073741824 := by
        have : ∀ q ∈ pows, 0 < q ∧ q.natAbs < 1073741824 := by unfold pows; decide
        exact this p (List.mem_of_getElem? hp)
      have q1 : atI [PyData.int 1, .int 2, .int 4, .int 8, .int 16, .int 32, .int 64, .int 128] (x : Int) = some (.int p) := atI_ints hp
      have w1 : atI [PyData.int h0, .int h1, .int h2] 1 = some (.int h1) := rfl
      have w2 : atI [PyData.int h0, .int h1, .int h2] 2 = some (.int h2) := rfl
      refine ⟨_, rfl, ?_⟩
      obtain ⟨t, ht⟩ : ∃ t, (bAnd (cB (c2 gGt (c2 gIx (cV 3) (cC (.int 2))) (cC (.int 0)))) (cB (c2 gEq (c2 gMod (c2 gDiv (c2 gIx (cV 3) (cC (.int 1))) (c2 gIx (cA gList (aC (cC (.int 1)) (aC (cC (.int 2)) (aC (cC (.int 4)) (aC (cC (.int 8)) (aC (cC (.int 16)) (aC (cC (.int 32)) (aC (cC (.int 64)) (aC (cC (.int 128)) aN))))))))) (cV 5))) (cC (.int 2))) (cC (.int 1))))) [a, b, c, some (.ol ([h0, h1, h2].map .int)), some (.ol (encU us)), some (.d (natI x)), j6, j7, j8, some (.ol (ts.map .int))] = .ok t := by
        by_cases c2 : (0 : Int) < h2
        · simp [e_V, natI, w1, w2, q1, c2, hpp]
        · simp [e_V, natI, w1, w2, q1, c2, hpp]
      show ∃ env', (L2__law_task [a, b, c, some (.ol ([h0, h1, h2].map .int)), some (.ol (encU us)), some (.d (natI x)), j6, j7, j8, some (.ol (ts.map .int))] = .nx env' ∨ L2__law_task [a, b, c, some (.ol ([h0, h1, h2].map .int)), some (.ol (encU us)), some (.d (natI x)), j6, j7, j8, some (.ol (ts.map .int))] = .ct env') ∧ _
      unfold L2__law_task
      rw [e_if, ht, Rs.out_ok]
      cases t with
      | true =>
        rw [if_pos rfl]
        refine ⟨[a, b, c, some (.ol ([h0, h1, h2].map .int)), some (.ol (encU us)), some (.d (natI x)), j6, j7, j8, some (.ol ((ts ++ [(x : Int)]).map .int))], .inl ?_, _, _, rfl, ha.snoc (by omega) (by omega), by simp; omega⟩
        have : ts.length ≤ 1000000 := by omega
        simp [e_app, e_V, this, natI]
      | false =>
        rw [if_neg Bool.false_ne_true]
        exact ⟨_, .inl rfl, ts, _, rfl, ha.mono (by omega), by omega⟩) ⟨[], j5, rfl, Asc.nil _, by simp⟩
  rw [List.length_range] at ha
  exact ⟨ts, j5', e1, ha⟩
theorem task_ok (ns : List Int) (at0 most : Nat) (hm1 : 1 ≤ most) (hm : most ≤ 8) : ∃ us ts, F__law_task [.sc ns, .d (natI at0), .d (natI most)] = .ok (.d (encT us ts)) ∧ WF most us ts := by
  obtain ⟨hd, hds, dr⟩ := draw_ok ns at0 [(most : Int), 256, 3] (by intro s hs; simp at hs; omega) (by simp)
  obtain ⟨h0, h1, h2, rfl⟩ : ∃ h0 h1 h2, hd = [h0, h1, h2] := by
    have := dr.len
    match hd, this with
    | [a, b, c], _ => exact ⟨a, b, c, rfl⟩
  have b0 := dr.lo 0 (by simp)
  have b1 := dr.hi 0 (by simp) (by simp)
  simp at b0 b1
  obtain ⟨us, j5, j6, j7, j8, e1, hl, hu⟩ := tk_out ns at0 most [h0, h1, h2] (1 + h0).toNat (by omega) none
  obtain ⟨ts, j5', e2, ha⟩ := tk_tgt (some (.sc ns)) (some (.d (natI at0))) (some (.d (natI most))) h0 h1 h2 us (by omega) j5 j6 j7 j8
  have s3 : sSet 3 (cA (fun rs => if rs.length = 3 then F__law_draw (rs.map RV.arg) else .no) (aC (cV 0) (aC (cV 1) (aC (cA gList (aC (cV 2) (aC (cC (.int 256)) (aC (cC (.int 3)) aN)))) aN)))) [some (.sc ns), some (.d (natI at0)), some (.d (natI most)), none, none, none, none, none, none, none]
      = .nx [some (.sc ns), some (.d (natI at0)), some (.d (natI most)), some (.ol ([h0, h1, h2].map .int)), none, none, none, none, none, none] := by
    have : F__law_draw [.sc ns, .d (natI at0), .d (.list [natI most, .int 256, .int 3])] = .ok (.ol ([h0, h1, h2].map .int)) := hds
    simp [e_V, this]
  have s4 : sSet 4 (cA gList aN) [some (.sc ns), some (.d (natI at0)), some (.d (natI most)), some (.ol ([h0, h1, h2].map .int)), none, none, none, none, none, none] = .nx [some (.sc ns), some (.d (natI at0)), some (.d (natI most)), some (.ol ([h0, h1, h2].map .int)), some (.ol []), none, none, none, none, none] := by simp
  have r1 : iR gR1 (aC (c2 gAdd (cC (.int 1)) (c2 gIx (cV 3) (cC (.int 0)))) aN) [some (.sc ns), some (.d (natI at0)), some (.d (natI most)), some (.ol ([h0, h1, h2].map .int)), some (.ol []), none, none, none, none, none] = .ok ((List.range (1 + h0).toNat).map natI) := by
    have := e_R1 (a := 1 + h0) (by omega)
    rw [rng_nat] at this
    simp [e_V, this]
  have s9 : sSet 9 (cA gList aN) [some (.sc ns), some (.d (natI at0)), some (.d (natI most)), some (.ol ([h0, h1, h2].map .int)), some (.ol (encU us)), j5, j6, j7, j8, none] = .nx [some (.sc ns), some (.d (natI at0)), some (.d (natI most)), some (.ol ([h0, h1, h2].map .int)), some (.ol (encU us)), j5, j6, j7, j8, some (.ol [])] := by simp
  have r2 : iR gR1 (aC (cA gLen (aC (cV 4) aN)) aN) [some (.sc ns), some (.d (natI at0)), some (.d (natI most)), some (.ol ([h0, h1, h2].map .int)), some (.ol (encU us)), j5, j6, j7, j8, some (.ol [])] = .ok ((List.range us.length).map natI) := by
    have := e_R1n (n := us.length) (by omega)
    rw [rng_nat] at this
    simp [e_V, encU_len, this]
  refine ⟨us, if ts = [] then [(us.length : Int) - 1] else ts, ?_, ⟨by omega, by omega, hu, ?_, ?_⟩⟩
  · show (sSeq _ _ ([some (.sc ns), some (.d (natI at0)), some (.d (natI most))] ++ List.replicate 7 none)).fin = _
    show (sSeq _ _ [some (.sc ns), some (.d (natI at0)), some (.d (natI most)), none, none, none, none, none, none, none]).fin = _
    rw [e_seq, s3, Out.then_nx, e_seq, s4, Out.then_nx, e_seq, e_for, r1, Rs.out_ok, e1, Out.then_nx, e_seq, s9, Out.then_nx, e_seq, e_for, r2, Rs.out_ok, e2, Out.then_nx]
    cases ts with
    | nil => simp [e_V, encU_len, encT]
    | cons t ts =>
      have : ¬ ((ts.length : Int) + 1 = 0) := by omega
      simp [e_V, encU_len, encT, this]
  · split
    · exact ⟨List.pairwise_singleton _ _, by simp; omega, by simp; omega⟩
    · exact ha
  · split <;> simp [*]
/-! ### texts: a letter and a number -/
def numS (n : Nat) : Str := Str.ofString (toString (n : Int))
def lx (c : Str) (n : Nat) : Str := c ++ numS n
theorem num_l (n : Nat) : (numS n).cps.toList = numL n := tl_num n
theorem num_len {n : Nat} (h : n < 100000) : (numS n).length ≤ 5 := by
  have e : (numS n).length = (numL n).length := by rw [← num_l n]; rfl
  rw [e]
  exact numL_len (by decide) (by simpa using h)
theorem log_ok (n : Nat) (h : n < 100000) : ((n : Int)).natAbs.log2 < 1920 := by
  have h1 : ((n : Int)).natAbs = n := rfl
  rw [h1]
  by_cases h0 : n = 0
  · subst h0; decide
  · exact (Nat.log2_lt h0).mpr (Nat.lt_of_lt_of_le h (by decide))
theorem str_ok {n : Nat} (h : n < 100000) : gStr [.d (.int n)] = .ok (.d (.str (numS n))) := if_pos (log_ok n h)
theorem int_ok {n : Nat} (h : n < 100000) : gInt [.d (.str (numS n))] = .ok (.d (.int n)) := by
  have e : PySem.intText? (numS n) = some (n : Int) := int_num (Nat.le_trans (numL_len (k := 5) (by decide) (by simpa using h)) (by decide))
  show (rsO (PySem.intText? (numS n))).bind _ = _
  rw [e]
  have := num_len h
  simp only [rsO_some, Rs.bind_ok]
  rw [if_pos (by omega)]
  rfl
theorem app_l (a b : Str) : (a ++ b).cps.toList = a.cps.toList ++ b.cps.toList := by
  show (a.cps ++ b.cps).toList = _
  simp
theorem str_ext {a b : Str} (h : a.cps.toList = b.cps.toList) : a = b := by
  cases a; cases b
  congr 1
  exact Array.toList_inj.mp h
/-- the letters -/
structure Letter (c : Str) (k : Nat) : Prop where
  l : c.cps.toList = [k]
theorem let_x : Letter "x" 120 := ⟨by decide +kernel⟩
theorem let_r : Letter "r" 114 := ⟨by decide +kernel⟩
theorem let_s : Letter "s" 115 := ⟨by decide +kernel⟩
theorem Letter.eq {c : Str} {k : Nat} (h : Letter c k) : c = ⟨#[k]⟩ := str_ext h.l
theorem Letter.len {c : Str} {k : Nat} (h : Letter c k) : c.length = 1 := by
  have : c.length = c.cps.toList.length := by show c.cps.size = _; simp
  rw [this, h.l]; rfl
theorem lx_l {c : Str} {k : Nat} (h : Letter c k) (n : Nat) : (lx c n).cps.toList = k :: numL n := by
  unfold lx
  rw [app_l, h.l, num_l]; rfl
theorem lx_len {c : Str} {k : Nat} (h : Letter c k) {n : Nat} (hn : n < 100000) : (lx c n).length ≤ 6 := by
  have e : (lx c n).length = (lx c n).cps.toList.length := by show (lx c n).cps.size = _; simp
  have := numL_len (n := n) (k := 5) (by decide) (by simpa using hn)
  rw [e, lx_l h]
  simp
  exact this
theorem lx_head {c : Str} {k : Nat} (h : Letter c k) {n : Nat} (hn : n < 100000) : gIx (.d (.str (lx c n))) (.d (.int 0)) = .ok (.d (.str c)) := by
  have := lx_len h hn
  rw [e_ixS, if_pos (by omega), lx_l h, atI_zero]
  rw [h.eq]; rfl
theorem num_head {n : Nat} (hn : n < 100000) : ∃ d, 48 ≤ d ∧ d ≤ 57 ∧ gIx (.d (.str (numS n))) (.d (.int 0)) = .ok (.d (.str ⟨#[d]⟩)) := by
  have h1 := num_len hn
  have h2 := numL_digits n
  have h3 := numL_ne n
  rw [e_ixS, if_pos (by omega), num_l]
  cases e : numL n with
  | nil => exact absurd e h3
  | cons d ds =>
    have := h2 d (by rw [e]; exact List.mem_cons_self)
    exact ⟨d, by omega, by omega, by rw [atI_zero]; rfl⟩
theorem one_ne {a b : Nat} (h : a ≠ b) : (⟨#[a]⟩ : Str) ≠ ⟨#[b]⟩ := fun e => h (by injection e with e; simpa using e)
theorem lx_tail {c : Str} {k : Nat} (h : Letter c k) {n : Nat} (hn : n < 100000) : gSl (.d (.str (lx c n))) (some 1) none = .ok (.d (.str (numS n))) := by
  have hl := lx_len h hn
  have e : (lx c n).length = (numL n).length + 1 := by
    have : (lx c n).length = (lx c n).cps.toList.length := by show (lx c n).cps.size = _; simp
    rw [this, lx_l h]; rfl
  show (if (lx c n).length ≤ 1000000 then Rs.ok (RV.d (.str (cutS (lx c n) (some 1) none))) else .no) = _
  rw [if_pos (by omega)]
  congr 3
  apply str_ext
  unfold cutS
  have e1 : HT.sIx (lx c n).length 0 (some 1) = 1 := by
    rw [show (1 : Int) = ((1 : Nat) : Int) from rfl, HT.sIx_nat]; omega
  rw [e1, HT.sIx_none, e, lx_l h, num_l]
  simp
@[simp] theorem eqv_str (a b : Str) : PyData.eqv (.str a) (.str b) = decide (a = b) := by
  rw [PyData.eqv]
  by_cases h : a = b <;> simp [h]
/-! ### shapes at any depth -/
structure Nice (k : Nat) (d : PyData) : Prop where
  lay : d.canLay0 = true
  dep : d.depth ≤ k
theorem nice_all {k : Nat} : ∀ {ds : List PyData}, (∀ d ∈ ds, Nice k d) → PyData.canLayAll0 ds = true ∧ PyData.depthAll ds ≤ k
  | [], _ => ⟨rfl, Nat.zero_le _⟩
  | d :: ds, h => by
    obtain ⟨h1, h2⟩ := nice_all fun x hx => h x (List.mem_cons_of_mem _ hx)
    have h3 := h d List.mem_cons_self
    refine ⟨?_, ?_⟩
    · show (PyData.canLay0 d && PyData.canLayAll0 ds) = true
      rw [h3.lay, h1]; rfl
    · show max d.depth (PyData.depthAll ds) ≤ k
      have := h3.dep
      omega
theorem Nice.tup {k : Nat} {ds : List PyData} (h : ∀ d ∈ ds, Nice k d) : Nice (k + 1) (.tuple ds) := ⟨(nice_all h).1, Nat.succ_le_succ (nice_all h).2⟩
theorem Nice.lst {k : Nat} {ds : List PyData} (h : ∀ d ∈ ds, Nice k d) : Nice (k + 1) (.list ds) := ⟨(nice_all h).1, Nat.succ_le_succ (nice_all h).2⟩
theorem Nice.int (k : Nat) (i : Int) : Nice k (.int i) := ⟨rfl, Nat.zero_le _⟩
theorem Nice.bool (k : Nat) (i : Bool) : Nice k (.bool i) := ⟨rfl, Nat.zero_le _⟩
theorem Nice.none (k : Nat) : Nice k .none := ⟨rfl, Nat.zero_le _⟩
theorem Nice.str (k : Nat) {s : Str} (h : PyData.strOk s = true) : Nice k (.str s) := ⟨h, Nat.zero_le _⟩
theorem Nice.shaped {k : Nat} {d : PyData} (h : Nice k d) (hk : k ≤ 64) : SeqAt.shaped d = true := by
  unfold SeqAt.shaped
  rw [h.lay, decide_eq_true (Nat.le_trans h.dep hk)]
  rfl
theorem Nice.refl {k : Nat} {d : PyData} (h : Nice k d) : PyData.eqv d d = true := SeqAt.eqv_refl d h.lay
theorem ok_of {s : Str} (h : ∀ c ∈ s.cps.toList, c < 200) : PyData.strOk s = true := by
  unfold PyData.strOk
  rw [Array.all_eq_true']
  intro c hc
  have := h c (by simpa using hc)
  simp
  omega
theorem num_strOk (n : Nat) : PyData.strOk (numS n) = true := ok_of fun c hc => by
  rw [num_l] at hc
  have := numL_digits n c hc
  omega
theorem lx_strOk {c : Str} {k : Nat} (h : Letter c k) (hk : k < 200) (n : Nat) : PyData.strOk (lx c n) = true := ok_of fun d hd => by
  rw [lx_l h] at hd
  rcases List.mem_cons.mp hd with rfl | hd
  · exact hk
  · have := numL_digits n d hd
    omega
theorem turns (ns : List Int) (h : ns.length ≤ 63) (a b : Int) (hb : 0 < b) (hb2 : b < 1000) (ha0 : 0 ≤ a) (ha : a ≤ 1000) (env : VEnv) (h0 : env[0]? = some (some (.sc ns))) : ∃ m : Nat, (m : Int) ≤ a ∧ (iR gR1 (aC (cA gMin2 (aC (cC (.int a)) (aC (c2 gAdd (cC (.int 1)) (c2 gDiv (cA gLen (aC (cV 0) aN)) (cC (.int b)))) aN))) aN)) env = .ok ((List.range m).map natI) := by
  have hd : 0 ≤ (ns.length : Int) / b := Int.ediv_nonneg (by omega) (by omega)
  obtain ⟨q, hq⟩ : ∃ q, q = (if 1 + (ns.length : Int) / b < a then 1 + (ns.length : Int) / b else a) := ⟨_, rfl⟩
  have hm : q.natAbs ≤ 1000000 ∧ 0 ≤ q ∧ q ≤ a := by rw [hq]; split <;> omega
  refine ⟨q.toNat, by omega, ?_⟩
  have := e_R1 hm.1
  rw [rng_nat] at this
  have hbb : 0 < b ∧ b.natAbs < 1073741824 := by omega
  simp only [e_iR, e_aC, e_cA, e_aN, e_c2, e_V, h0, Rs.bind_ok, e_cC, e_bor4, e_lenSc, e_div, if_pos hbb, e_addI, e_min2, ← hq, this]
/-! ### configurations -/
def canM (us : List (List Int)) (h : List Int) (s : Int) : Bool := (usAt us s).all fun u => decide (u ∈ h)
def movM (h : List Int) (s : Int) : List Int := if s ∈ h then h.filter fun x => decide (x ≠ s) else isort (h ++ [s])
theorem ne_int (a b : Int) : (!decide (a = b)) = decide (a ≠ b) := by simp
theorem lc_ints {env : VEnv} {t : VEnv → Rs Bool} (i : Nat) (xs : List Int) (p : Int → Bool) (hi : i < env.length) (h : ∀ x ∈ xs, t (env.set i (some (.d (.int x)))) = .ok (p x)) : lcF (.nm i) t (cV i) env (xs.map .int) = .ok ((xs.filter p).map .int) := by
  refine lcF_map PyData.int p PyData.int xs fun x hx => ⟨env.set i (some (.d (.int x))), by rw [e_tgnm, if_pos hi], h x hx, fun _ => ⟨.d (.int x), ?_, rfl⟩⟩
  rw [e_V, List.getElem?_set_self hi]
  rfl
theorem lc_nats {env : VEnv} {t : VEnv → Rs Bool} (i : Nat) (xs : List Nat) (p : Nat → Bool) (hi : i < env.length) (h : ∀ x ∈ xs, t (env.set i (some (.d (.int (x : Int))))) = .ok (p x)) : lcF (.nm i) t (cV i) env (xs.map natI) = .ok ((xs.filter p).map natI) := by
  refine lcF_map natI p natI xs fun x hx => ⟨env.set i (some (.d (.int x))), by rw [e_tgnm, if_pos hi]; rfl, h x hx, fun _ => ⟨.d (.int x), ?_, rfl⟩⟩
  rw [e_V, List.getElem?_set_self hi]
  rfl
def tupD (r : List Int) : PyData := .tuple (r.map .int)
theorem movM_len (h : List Int) (s : Int) : (movM h s).length ≤ h.length + 1 := by
  unfold movM
  split
  · exact Nat.le_succ_of_le (List.length_filter_le _ _)
  · rw [(isort_perm _).length_eq]; simp
def behindM (h r : List Int) : List Int := r.foldl movM h
theorem behindM_len : ∀ (r h : List Int), (behindM h r).length ≤ h.length + r.length
  | [], h => Nat.le_refl _
  | x :: r, h => by
    have := behindM_len r (movM h x)
    have := movM_len h x
    show (behindM (movM h x) r).length ≤ h.length + (r.length + 1)
    omega
theorem moved_ok (h : List Int) (s : Int) (hl : h.length ≤ 1000) : F_moved [.d (.tuple (h.map .int)), .d (.int s)] = .ok (.d (.tuple ((movM h s).map .int))) := by
  show (sSeq _ _ [some (.d (.tuple (h.map .int))), some (.d (.int s)), none]).fin = _
  have hz : h.length ≤ 1000000 := by omega
  have hz2 : h.length ≤ 999999 := by omega
  have hc : lcF (.nm 2) (cB (c2 gNe (cV 2) (cV 1))) (cV 2) [some (.d (.tuple (h.map .int))), some (.d (.int s)), none] (h.map .int) = .ok ((h.filter fun x => decide (x ≠ s)).map .int) :=
    lc_ints 2 h _ (by simp) fun x _ => by
      simp only [List.set_cons_succ, List.set_cons_zero]
      simp only [e_nil, e_seq, e_fz, e_bk, e_ct, e_ret, e_retN, e_drop, e_set, e_if, e_for, e_cC, e_c2, e_c1, e_cA, e_aN, e_aC, e_cB, e_asB, e_bNot, e_bAnd, e_bOr, e_vAnd, e_vOr, e_vNot, e_vIf, e_bYes, e_iL, e_iT, e_iLb, e_iR, e_gL1, e_gL2, e_gL3, e_gT, e_gLb1, e_gLb2, e_gLb3, e_gLb4, e_nb1, e_nb2, e_bor1, e_bor2, e_bor3, e_bor4, e_arg1, e_arg2, e_arg3, e_arg4, e_putd, e_puto, e_toD1, e_toD2, e_allD0, e_allD1, e_allD2, e_gTupl, e_gList, e_tgnm, e_tgtp, e_tg0, e_tg1, e_sq1, e_sq2, e_sq3, e_sq4, e_sq5, e_qv2, e_qv3, e_qv4, e_qv5, e_data1, e_data2, e_data3, e_okI, e_okB, e_i2, e_sub, e_mul, e_mod, e_div, e_pow, e_lt, e_le, e_gt, e_ge, e_neg, e_addI, e_addS, e_addT, e_addL1, e_addL2, e_addL3, e_addL4, e_addL5, e_addL6, e_addL7, e_addL8, e_addL9, e_eq, e_ne, e_in, e_notIn, e_inT, e_inT2, e_inL1, e_inL2, e_inL3, e_is, e_isNot, e_isN1, e_isN2, e_isN3, e_isN4, e_isN5, e_isN6, e_isN7, e_ixT, e_ixL, e_ixO, e_ixB, e_ixSc, e_lenT, e_lenL, e_lenO, e_lenB, e_lenSc, e_lenS, e_tupT, e_tupL, e_tupO, e_tupB, e_lisT, e_lisL, e_lisO, e_lisB, e_min2, e_max2, e_any, e_all, e_sum, e_sorted, e_rev, e_sl, e_oN, e_isi, e_lc, e_wipe0, e_wipe1, e_iA, e_iAb, e_gAq1, e_gAq2, e_gAq3, e_gAqb1, e_gAqb2, e_gAqb3, e_gAqb4, e_no, e_cCh, e_cChI, e_aug, e_decT, e_decF, e_cDispS, e_cDT, e_cDK, e_cDisp1, e_storeA, e_stR1, e_stR2, e_stR3, e_sd1, e_keyD1, e_keyD2, e_keyTD, e_intsD, e_intsD0, e_borT, e_borT2, e_borK, e_borK2, e_argT, e_argT2, e_argK, e_argK2, e_nbT, e_nbK, e_putT, e_putK, e_gAt1, e_gAt2, e_gAt3, e_gAt4, e_gGetDK, e_gGetDT, e_gIxD, e_gInD, e_gNotInD, e_cGet1, e_cGet2, e_dk1, e_dk2, e_dk3, e_dk4, e_dt1, e_dt2, e_del, atI_zero, e_at1, e_at2, e_at3, e_at4, e_at5, e_at6, e_at7, e_at8, e_at9, e_atm, e_V, e_retV, e_unp, e_app, e_store, e_fzE, oS, rsO_some, Rs.bind_ok, Rs.bind_no, Rs.out_ok, Out.then_nx, Out.then_rt, Out.then_ct, Out.then_bk, fin_rt, fin_nx, List.getElem?_cons_zero, List.getElem?_cons_succ, List.set_cons_succ, List.set_cons_zero, List.length_cons, List.length_nil, Nat.reduceAdd, Nat.reduceLT, Nat.reduceLeDiff, Nat.reduceEqDiff, if_true, if_false, Bool.false_eq_true, Bool.not_true, Bool.not_false, and_self, true_and, and_true, List.map_cons, List.map_nil, Option.map_some, sh_int, sh_bool, sh_none, sh_tup, sh_lst, eqv_int, reduceIte, Option.bind_some, Option.bind_none, kitB_ll, kitB_lt, kitB_tt, kitB_tl, kitB_ii, tyD_list, tyD_int, Bool.true_and, Bool.false_and, Bool.and_true, Bool.and_false, Bool.or_true, Bool.true_or, Bool.false_or, Bool.or_false, Bool.and_self, Bool.or_self, e_cAK, List.append_nil, List.nil_append, List.cons_append, e_andB, e_orB, e_andR, e_orR, tyD_tuple, eqv_bool, eqv_none, tyD_bool, tyD_str, tyD_none, kitB_bb, kitB_nb, kitB_bi, kitB_ib, kitB_nl, kitB_nt, beq_self_eq_true, ne_int]
  have hm : (h.map PyData.int ++ [.int s]) = (h ++ [s]).map PyData.int := by simp
  by_cases hs : s ∈ h
  · have : movM h s = h.filter fun x => decide (x ≠ s) := if_pos hs
    rw [this]
    simp only [e_nil, e_seq, e_fz, e_bk, e_ct, e_ret, e_retN, e_drop, e_set, e_if, e_for, e_cC, e_c2, e_c1, e_cA, e_aN, e_aC, e_cB, e_asB, e_bNot, e_bAnd, e_bOr, e_vAnd, e_vOr, e_vNot, e_vIf, e_bYes, e_iL, e_iT, e_iLb, e_iR, e_gL1, e_gL2, e_gL3, e_gT, e_gLb1, e_gLb2, e_gLb3, e_gLb4, e_nb1, e_nb2, e_bor1, e_bor2, e_bor3, e_bor4, e_arg1, e_arg2, e_arg3, e_arg4, e_putd, e_puto, e_toD1, e_toD2, e_allD0, e_allD1, e_allD2, e_gTupl, e_gList, e_tgnm, e_tgtp, e_tg0, e_tg1, e_sq1, e_sq2, e_sq3, e_sq4, e_sq5, e_qv2, e_qv3, e_qv4, e_qv5, e_data1, e_data2, e_data3, e_okI, e_okB, e_i2, e_sub, e_mul, e_mod, e_div, e_pow, e_lt, e_le, e_gt, e_ge, e_neg, e_addI, e_addS, e_addT, e_addL1, e_addL2, e_addL3, e_addL4, e_addL5, e_addL6, e_addL7, e_addL8, e_addL9, e_eq, e_ne, e_in, e_notIn, e_inT, e_inT2, e_inL1, e_inL2, e_inL3, e_is, e_isNot, e_isN1, e_isN2, e_isN3, e_isN4, e_isN5, e_isN6, e_isN7, e_ixT, e_ixL, e_ixO, e_ixB, e_ixSc, e_lenT, e_lenL, e_lenO, e_lenB, e_lenSc, e_lenS, e_tupT, e_tupL, e_tupO, e_tupB, e_lisT, e_lisL, e_lisO, e_lisB, e_min2, e_max2, e_any, e_all, e_sum, e_sorted, e_rev, e_sl, e_oN, e_isi, e_lc, e_wipe0, e_wipe1, e_iA, e_iAb, e_gAq1, e_gAq2, e_gAq3, e_gAqb1, e_gAqb2, e_gAqb3, e_gAqb4, e_no, e_cCh, e_cChI, e_aug, e_decT, e_decF, e_cDispS, e_cDT, e_cDK, e_cDisp1, e_storeA, e_stR1, e_stR2, e_stR3, e_sd1, e_keyD1, e_keyD2, e_keyTD, e_intsD, e_intsD0, e_borT, e_borT2, e_borK, e_borK2, e_argT, e_argT2, e_argK, e_argK2, e_nbT, e_nbK, e_putT, e_putK, e_gAt1, e_gAt2, e_gAt3, e_gAt4, e_gGetDK, e_gGetDT, e_gIxD, e_gInD, e_gNotInD, e_cGet1, e_cGet2, e_dk1, e_dk2, e_dk3, e_dk4, e_dt1, e_dt2, e_del, atI_zero, e_at1, e_at2, e_at3, e_at4, e_at5, e_at6, e_at7, e_at8, e_at9, e_atm, e_V, e_retV, e_unp, e_app, e_store, e_fzE, oS, rsO_some, Rs.bind_ok, Rs.bind_no, Rs.out_ok, Out.then_nx, Out.then_rt, Out.then_ct, Out.then_bk, fin_rt, fin_nx, List.getElem?_cons_zero, List.getElem?_cons_succ, List.set_cons_succ, List.set_cons_zero, List.length_cons, List.length_nil, Nat.reduceAdd, Nat.reduceLT, Nat.reduceLeDiff, Nat.reduceEqDiff, if_true, if_false, Bool.false_eq_true, Bool.not_true, Bool.not_false, and_self, true_and, and_true, List.map_cons, List.map_nil, Option.map_some, sh_int, sh_bool, sh_none, sh_tup, sh_lst, eqv_int, reduceIte, Option.bind_some, Option.bind_none, kitB_ll, kitB_lt, kitB_tt, kitB_tl, kitB_ii, tyD_list, tyD_int, Bool.true_and, Bool.false_and, Bool.and_true, Bool.and_false, Bool.or_true, Bool.true_or, Bool.false_or, Bool.or_false, Bool.and_self, Bool.or_self, e_cAK, List.append_nil, List.nil_append, List.cons_append, e_andB, e_orB, e_andR, e_orR, tyD_tuple, eqv_bool, eqv_none, tyD_bool, tyD_str, tyD_none, kitB_bb, kitB_nb, kitB_bi, kitB_ib, kitB_nl, kitB_nt, beq_self_eq_true, anyI, decide_eq_true hs, List.length_map, if_pos hz, hc]
  · have : movM h s = isort (h ++ [s]) := if_neg hs
    rw [this]
    simp only [e_nil, e_seq, e_fz, e_bk, e_ct, e_ret, e_retN, e_drop, e_set, e_if, e_for, e_cC, e_c2, e_c1, e_cA, e_aN, e_aC, e_cB, e_asB, e_bNot, e_bAnd, e_bOr, e_vAnd, e_vOr, e_vNot, e_vIf, e_bYes, e_iL, e_iT, e_iLb, e_iR, e_gL1, e_gL2, e_gL3, e_gT, e_gLb1, e_gLb2, e_gLb3, e_gLb4, e_nb1, e_nb2, e_bor1, e_bor2, e_bor3, e_bor4, e_arg1, e_arg2, e_arg3, e_arg4, e_putd, e_puto, e_toD1, e_toD2, e_allD0, e_allD1, e_allD2, e_gTupl, e_gList, e_tgnm, e_tgtp, e_tg0, e_tg1, e_sq1, e_sq2, e_sq3, e_sq4, e_sq5, e_qv2, e_qv3, e_qv4, e_qv5, e_data1, e_data2, e_data3, e_okI, e_okB, e_i2, e_sub, e_mul, e_mod, e_div, e_pow, e_lt, e_le, e_gt, e_ge, e_neg, e_addI, e_addS, e_addT, e_addL1, e_addL2, e_addL3, e_addL4, e_addL5, e_addL6, e_addL7, e_addL8, e_addL9, e_eq, e_ne, e_in, e_notIn, e_inT, e_inT2, e_inL1, e_inL2, e_inL3, e_is, e_isNot, e_isN1, e_isN2, e_isN3, e_isN4, e_isN5, e_isN6, e_isN7, e_ixT, e_ixL, e_ixO, e_ixB, e_ixSc, e_lenT, e_lenL, e_lenO, e_lenB, e_lenSc, e_lenS, e_tupT, e_tupL, e_tupO, e_tupB, e_lisT, e_lisL, e_lisO, e_lisB, e_min2, e_max2, e_any, e_all, e_sum, e_sorted, e_rev, e_sl, e_oN, e_isi, e_lc, e_wipe0, e_wipe1, e_iA, e_iAb, e_gAq1, e_gAq2, e_gAq3, e_gAqb1, e_gAqb2, e_gAqb3, e_gAqb4, e_no, e_cCh, e_cChI, e_aug, e_decT, e_decF, e_cDispS, e_cDT, e_cDK, e_cDisp1, e_storeA, e_stR1, e_stR2, e_stR3, e_sd1, e_keyD1, e_keyD2, e_keyTD, e_intsD, e_intsD0, e_borT, e_borT2, e_borK, e_borK2, e_argT, e_argT2, e_argK, e_argK2, e_nbT, e_nbK, e_putT, e_putK, e_gAt1, e_gAt2, e_gAt3, e_gAt4, e_gGetDK, e_gGetDT, e_gIxD, e_gInD, e_gNotInD, e_cGet1, e_cGet2, e_dk1, e_dk2, e_dk3, e_dk4, e_dt1, e_dt2, e_del, atI_zero, e_at1, e_at2, e_at3, e_at4, e_at5, e_at6, e_at7, e_at8, e_at9, e_atm, e_V, e_retV, e_unp, e_app, e_store, e_fzE, oS, rsO_some, Rs.bind_ok, Rs.bind_no, Rs.out_ok, Out.then_nx, Out.then_rt, Out.then_ct, Out.then_bk, fin_rt, fin_nx, List.getElem?_cons_zero, List.getElem?_cons_succ, List.set_cons_succ, List.set_cons_zero, List.length_cons, List.length_nil, Nat.reduceAdd, Nat.reduceLT, Nat.reduceLeDiff, Nat.reduceEqDiff, if_true, if_false, Bool.false_eq_true, Bool.not_true, Bool.not_false, and_self, true_and, and_true, List.map_cons, List.map_nil, Option.map_some, sh_int, sh_bool, sh_none, sh_tup, sh_lst, eqv_int, reduceIte, Option.bind_some, Option.bind_none, kitB_ll, kitB_lt, kitB_tt, kitB_tl, kitB_ii, tyD_list, tyD_int, Bool.true_and, Bool.false_and, Bool.and_true, Bool.and_false, Bool.or_true, Bool.true_or, Bool.false_or, Bool.or_false, Bool.and_self, Bool.or_self, e_cAK, List.append_nil, List.nil_append, List.cons_append, e_andB, e_orB, e_andR, e_orR, tyD_tuple, eqv_bool, eqv_none, tyD_bool, tyD_str, tyD_none, kitB_bb, kitB_nb, kitB_bi, kitB_ib, kitB_nl, kitB_nt, beq_self_eq_true, anyI, decide_eq_false hs, List.length_map, if_pos hz2, hm, intsD_map]
theorem possible_ok (us : List (List Int)) (ts h : List Int) (s : Int) (h0 : 0 ≤ s) (h1 : s < us.length) : F_is_possible [.d (encT us ts), .d (.tuple (h.map .int)), .d (.int s)] = .ok (.d (.bool (canM us h s))) := by
  have ha := encU_at us h0 h1
  have hs : gIx (.d (encT us ts)) (.d (.int 0)) = .ok (.d (.tuple (encU us))) := rfl
  have main : ∀ (xs : List Int) (e3 : Option RV), ∃ e3' : Option RV, loopF (.nm 3) L0_is_possible (xs.map .int) [some (.d (encT us ts)), some (.d (.tuple (h.map .int))), some (.d (.int s)), e3] = if (xs.all fun u => decide (u ∈ h)) = true then .nx [some (.d (encT us ts)), some (.d (.tuple (h.map .int))), some (.d (.int s)), e3'] else .rt (.d (.bool false)) := by
    intro xs
    induction xs with
    | nil => exact fun e3 => ⟨e3, rfl⟩
    | cons x xs ih =>
      intro e3
      obtain ⟨e3', ih⟩ := ih (some (.d (.int x)))
      refine ⟨e3', ?_⟩
      rw [List.map_cons, loopF_cons]
      simp only [e_nil, e_seq, e_fz, e_bk, e_ct, e_ret, e_retN, e_drop, e_set, e_if, e_for, e_cC, e_c2, e_c1, e_cA, e_aN, e_aC, e_cB, e_asB, e_bNot, e_bAnd, e_bOr, e_vAnd, e_vOr, e_vNot, e_vIf, e_bYes, e_iL, e_iT, e_iLb, e_iR, e_gL1, e_gL2, e_gL3, e_gT, e_gLb1, e_gLb2, e_gLb3, e_gLb4, e_nb1, e_nb2, e_bor1, e_bor2, e_bor3, e_bor4, e_arg1, e_arg2, e_arg3, e_arg4, e_putd, e_puto, e_toD1, e_toD2, e_allD0, e_allD1, e_allD2, e_gTupl, e_gList, e_tgnm, e_tgtp, e_tg0, e_tg1, e_sq1, e_sq2, e_sq3, e_sq4, e_sq5, e_qv2, e_qv3, e_qv4, e_qv5, e_data1, e_data2, e_data3, e_okI, e_okB, e_i2, e_sub, e_mul, e_mod, e_div, e_pow, e_lt, e_le, e_gt, e_ge, e_neg, e_addI, e_addS, e_addT, e_addL1, e_addL2, e_addL3, e_addL4, e_addL5, e_addL6, e_addL7, e_addL8, e_addL9, e_eq, e_ne, e_in, e_notIn, e_inT, e_inT2, e_inL1, e_inL2, e_inL3, e_is, e_isNot, e_isN1, e_isN2, e_isN3, e_isN4, e_isN5, e_isN6, e_isN7, e_ixT, e_ixL, e_ixO, e_ixB, e_ixSc, e_lenT, e_lenL, e_lenO, e_lenB, e_lenSc, e_lenS, e_tupT, e_tupL, e_tupO, e_tupB, e_lisT, e_lisL, e_lisO, e_lisB, e_min2, e_max2, e_any, e_all, e_sum, e_sorted, e_rev, e_sl, e_oN, e_isi, e_lc, e_wipe0, e_wipe1, e_iA, e_iAb, e_gAq1, e_gAq2, e_gAq3, e_gAqb1, e_gAqb2, e_gAqb3, e_gAqb4, e_no, e_cCh, e_cChI, e_aug, e_decT, e_decF, e_cDispS, e_cDT, e_cDK, e_cDisp1, e_storeA, e_stR1, e_stR2, e_stR3, e_sd1, e_keyD1, e_keyD2, e_keyTD, e_intsD, e_intsD0, e_borT, e_borT2, e_borK, e_borK2, e_argT, e_argT2, e_argK, e_argK2, e_nbT, e_nbK, e_putT, e_putK, e_gAt1, e_gAt2, e_gAt3, e_gAt4, e_gGetDK, e_gGetDT, e_gIxD, e_gInD, e_gNotInD, e_cGet1, e_cGet2, e_dk1, e_dk2, e_dk3, e_dk4, e_dt1, e_dt2, e_del, atI_zero, e_at1, e_at2, e_at3, e_at4, e_at5, e_at6, e_at7, e_at8, e_at9, e_atm, e_V, e_retV, e_unp, e_app, e_store, e_fzE, oS, rsO_some, Rs.bind_ok, Rs.bind_no, Rs.out_ok, Out.then_nx, Out.then_rt, Out.then_ct, Out.then_bk, fin_rt, fin_nx, List.getElem?_cons_zero, List.getElem?_cons_succ, List.set_cons_succ, List.set_cons_zero, List.length_cons, List.length_nil, Nat.reduceAdd, Nat.reduceLT, Nat.reduceLeDiff, Nat.reduceEqDiff, if_true, if_false, Bool.false_eq_true, Bool.not_true, Bool.not_false, and_self, true_and, and_true, List.map_cons, List.map_nil, Option.map_some, sh_int, sh_bool, sh_none, sh_tup, sh_lst, eqv_int, reduceIte, Option.bind_some, Option.bind_none, kitB_ll, kitB_lt, kitB_tt, kitB_tl, kitB_ii, tyD_list, tyD_int, Bool.true_and, Bool.false_and, Bool.and_true, Bool.and_false, Bool.or_true, Bool.true_or, Bool.false_or, Bool.or_false, Bool.and_self, Bool.or_self, e_cAK, List.append_nil, List.nil_append, List.cons_append, e_andB, e_orB, e_andR, e_orR, tyD_tuple, eqv_bool, eqv_none, tyD_bool, tyD_str, tyD_none, kitB_bb, kitB_nb, kitB_bi, kitB_ib, kitB_nl, kitB_nt, beq_self_eq_true]
      have e : L0_is_possible [some (.d (encT us ts)), some (.d (.tuple (h.map .int))), some (.d (.int s)), some (.d (.int x))] = if x ∈ h then .nx [some (.d (encT us ts)), some (.d (.tuple (h.map .int))), some (.d (.int s)), some (.d (.int x))] else .rt (.d (.bool false)) := by
        unfold L0_is_possible
        by_cases hx : x ∈ h
        · simp only [e_nil, e_seq, e_fz, e_bk, e_ct, e_ret, e_retN, e_drop, e_set, e_if, e_for, e_cC, e_c2, e_c1, e_cA, e_aN, e_aC, e_cB, e_asB, e_bNot, e_bAnd, e_bOr, e_vAnd, e_vOr, e_vNot, e_vIf, e_bYes, e_iL, e_iT, e_iLb, e_iR, e_gL1, e_gL2, e_gL3, e_gT, e_gLb1, e_gLb2, e_gLb3, e_gLb4, e_nb1, e_nb2, e_bor1, e_bor2, e_bor3, e_bor4, e_arg1, e_arg2, e_arg3, e_arg4, e_putd, e_puto, e_toD1, e_toD2, e_allD0, e_allD1, e_allD2, e_gTupl, e_gList, e_tgnm, e_tgtp, e_tg0, e_tg1, e_sq1, e_sq2, e_sq3, e_sq4, e_sq5, e_qv2, e_qv3, e_qv4, e_qv5, e_data1, e_data2, e_data3, e_okI, e_okB, e_i2, e_sub, e_mul, e_mod, e_div, e_pow, e_lt, e_le, e_gt, e_ge, e_neg, e_addI, e_addS, e_addT, e_addL1, e_addL2, e_addL3, e_addL4, e_addL5, e_addL6, e_addL7, e_addL8, e_addL9, e_eq, e_ne, e_in, e_notIn, e_inT, e_inT2, e_inL1, e_inL2, e_inL3, e_is, e_isNot, e_isN1, e_isN2, e_isN3, e_isN4, e_isN5, e_isN6, e_isN7, e_ixT, e_ixL, e_ixO, e_ixB, e_ixSc, e_lenT, e_lenL, e_lenO, e_lenB, e_lenSc, e_lenS, e_tupT, e_tupL, e_tupO, e_tupB, e_lisT, e_lisL, e_lisO, e_lisB, e_min2, e_max2, e_any, e_all, e_sum, e_sorted, e_rev, e_sl, e_oN, e_isi, e_lc, e_wipe0, e_wipe1, e_iA, e_iAb, e_gAq1, e_gAq2, e_gAq3, e_gAqb1, e_gAqb2, e_gAqb3, e_gAqb4, e_no, e_cCh, e_cChI, e_aug, e_decT, e_decF, e_cDispS, e_cDT, e_cDK, e_cDisp1, e_storeA, e_stR1, e_stR2, e_stR3, e_sd1, e_keyD1, e_keyD2, e_keyTD, e_intsD, e_intsD0, e_borT, e_borT2, e_borK, e_borK2, e_argT, e_argT2, e_argK, e_argK2, e_nbT, e_nbK, e_putT, e_putK, e_gAt1, e_gAt2, e_gAt3, e_gAt4, e_gGetDK, e_gGetDT, e_gIxD, e_gInD, e_gNotInD, e_cGet1, e_cGet2, e_dk1, e_dk2, e_dk3, e_dk4, e_dt1, e_dt2, e_del, atI_zero, e_at1, e_at2, e_at3, e_at4, e_at5, e_at6, e_at7, e_at8, e_at9, e_atm, e_V, e_retV, e_unp, e_app, e_store, e_fzE, oS, rsO_some, Rs.bind_ok, Rs.bind_no, Rs.out_ok, Out.then_nx, Out.then_rt, Out.then_ct, Out.then_bk, fin_rt, fin_nx, List.getElem?_cons_zero, List.getElem?_cons_succ, List.set_cons_succ, List.set_cons_zero, List.length_cons, List.length_nil, Nat.reduceAdd, Nat.reduceLT, Nat.reduceLeDiff, Nat.reduceEqDiff, if_true, if_false, Bool.false_eq_true, Bool.not_true, Bool.not_false, and_self, true_and, and_true, List.map_cons, List.map_nil, Option.map_some, sh_int, sh_bool, sh_none, sh_tup, sh_lst, eqv_int, reduceIte, Option.bind_some, Option.bind_none, kitB_ll, kitB_lt, kitB_tt, kitB_tl, kitB_ii, tyD_list, tyD_int, Bool.true_and, Bool.false_and, Bool.and_true, Bool.and_false, Bool.or_true, Bool.true_or, Bool.false_or, Bool.or_false, Bool.and_self, Bool.or_self, e_cAK, List.append_nil, List.nil_append, List.cons_append, e_andB, e_orB, e_andR, e_orR, tyD_tuple, eqv_bool, eqv_none, tyD_bool, tyD_str, tyD_none, kitB_bb, kitB_nb, kitB_bi, kitB_ib, kitB_nl, kitB_nt, beq_self_eq_true, anyI, decide_eq_true hx, if_pos hx]
        · simp only [e_nil, e_seq, e_fz, e_bk, e_ct, e_ret, e_retN, e_drop, e_set, e_if, e_for, e_cC, e_c2, e_c1, e_cA, e_aN, e_aC, e_cB, e_asB, e_bNot, e_bAnd, e_bOr, e_vAnd, e_vOr, e_vNot, e_vIf, e_bYes, e_iL, e_iT, e_iLb, e_iR, e_gL1, e_gL2, e_gL3, e_gT, e_gLb1, e_gLb2, e_gLb3, e_gLb4, e_nb1, e_nb2, e_bor1, e_bor2, e_bor3, e_bor4, e_arg1, e_arg2, e_arg3, e_arg4, e_putd, e_puto, e_toD1, e_toD2, e_allD0, e_allD1, e_allD2, e_gTupl, e_gList, e_tgnm, e_tgtp, e_tg0, e_tg1, e_sq1, e_sq2, e_sq3, e_sq4, e_sq5, e_qv2, e_qv3, e_qv4, e_qv5, e_data1, e_data2, e_data3, e_okI, e_okB, e_i2, e_sub, e_mul, e_mod, e_div, e_pow, e_lt, e_le, e_gt, e_ge, e_neg, e_addI, e_addS, e_addT, e_addL1, e_addL2, e_addL3, e_addL4, e_addL5, e_addL6, e_addL7, e_addL8, e_addL9, e_eq, e_ne, e_in, e_notIn, e_inT, e_inT2, e_inL1, e_inL2, e_inL3, e_is, e_isNot, e_isN1, e_isN2, e_isN3, e_isN4, e_isN5, e_isN6, e_isN7, e_ixT, e_ixL, e_ixO, e_ixB, e_ixSc, e_lenT, e_lenL, e_lenO, e_lenB, e_lenSc, e_lenS, e_tupT, e_tupL, e_tupO, e_tupB, e_lisT, e_lisL, e_lisO, e_lisB, e_min2, e_max2, e_any, e_all, e_sum, e_sorted, e_rev, e_sl, e_oN, e_isi, e_lc, e_wipe0, e_wipe1, e_iA, e_iAb, e_gAq1, e_gAq2, e_gAq3, e_gAqb1, e_gAqb2, e_gAqb3, e_gAqb4, e_no, e_cCh, e_cChI, e_aug, e_decT, e_decF, e_cDispS, e_cDT, e_cDK, e_cDisp1, e_storeA, e_stR1, e_stR2, e_stR3, e_sd1, e_keyD1, e_keyD2, e_keyTD, e_intsD, e_intsD0, e_borT, e_borT2, e_borK, e_borK2, e_argT, e_argT2, e_argK, e_argK2, e_nbT, e_nbK, e_putT, e_putK, e_gAt1, e_gAt2, e_gAt3, e_gAt4, e_gGetDK, e_gGetDT, e_gIxD, e_gInD, e_gNotInD, e_cGet1, e_cGet2, e_dk1, e_dk2, e_dk3, e_dk4, e_dt1, e_dt2, e_del, atI_zero, e_at1, e_at2, e_at3, e_at4, e_at5, e_at6, e_at7, e_at8, e_at9, e_atm, e_V, e_retV, e_unp, e_app, e_store, e_fzE, oS, rsO_some, Rs.bind_ok, Rs.bind_no, Rs.out_ok, Out.then_nx, Out.then_rt, Out.then_ct, Out.then_bk, fin_rt, fin_nx, List.getElem?_cons_zero, List.getElem?_cons_succ, List.set_cons_succ, List.set_cons_zero, List.length_cons, List.length_nil, Nat.reduceAdd, Nat.reduceLT, Nat.reduceLeDiff, Nat.reduceEqDiff, if_true, if_false, Bool.false_eq_true, Bool.not_true, Bool.not_false, and_self, true_and, and_true, List.map_cons, List.map_nil, Option.map_some, sh_int, sh_bool, sh_none, sh_tup, sh_lst, eqv_int, reduceIte, Option.bind_some, Option.bind_none, kitB_ll, kitB_lt, kitB_tt, kitB_tl, kitB_ii, tyD_list, tyD_int, Bool.true_and, Bool.false_and, Bool.and_true, Bool.and_false, Bool.or_true, Bool.true_or, Bool.false_or, Bool.or_false, Bool.and_self, Bool.or_self, e_cAK, List.append_nil, List.nil_append, List.cons_append, e_andB, e_orB, e_andR, e_orR, tyD_tuple, eqv_bool, eqv_none, tyD_bool, tyD_str, tyD_none, kitB_bb, kitB_nb, kitB_bi, kitB_ib, kitB_nl, kitB_nt, beq_self_eq_true, anyI, decide_eq_false hx, if_neg hx]
      rw [e]
      by_cases hx : x ∈ h
      · rw [if_pos hx, lp_nx, ih, List.all_cons, decide_eq_true hx, Bool.true_and]
      · rw [if_neg hx, lp_rt, List.all_cons, decide_eq_false hx, Bool.false_and, if_neg Bool.false_ne_true]
  obtain ⟨e3', e1⟩ := main (usAt us s) none
  show (sSeq _ _ [some (.d (encT us ts)), some (.d (.tuple (h.map .int))), some (.d (.int s)), none]).fin = _
  simp only [e_nil, e_seq, e_fz, e_bk, e_ct, e_ret, e_retN, e_drop, e_set, e_if, e_for, e_cC, e_c2, e_c1, e_cA, e_aN, e_aC, e_cB, e_asB, e_bNot, e_bAnd, e_bOr, e_vAnd, e_vOr, e_vNot, e_vIf, e_bYes, e_iL, e_iT, e_iLb, e_iR, e_gL1, e_gL2, e_gL3, e_gT, e_gLb1, e_gLb2, e_gLb3, e_gLb4, e_nb1, e_nb2, e_bor1, e_bor2, e_bor3, e_bor4, e_arg1, e_arg2, e_arg3, e_arg4, e_putd, e_puto, e_toD1, e_toD2, e_allD0, e_allD1, e_allD2, e_gTupl, e_gList, e_tgnm, e_tgtp, e_tg0, e_tg1, e_sq1, e_sq2, e_sq3, e_sq4, e_sq5, e_qv2, e_qv3, e_qv4, e_qv5, e_data1, e_data2, e_data3, e_okI, e_okB, e_i2, e_sub, e_mul, e_mod, e_div, e_pow, e_lt, e_le, e_gt, e_ge, e_neg, e_addI, e_addS, e_addT, e_addL1, e_addL2, e_addL3, e_addL4, e_addL5, e_addL6, e_addL7, e_addL8, e_addL9, e_eq, e_ne, e_in, e_notIn, e_inT, e_inT2, e_inL1, e_inL2, e_inL3, e_is, e_isNot, e_isN1, e_isN2, e_isN3, e_isN4, e_isN5, e_isN6, e_isN7, e_ixT, e_ixL, e_ixO, e_ixB, e_ixSc, e_lenT, e_lenL, e_lenO, e_lenB, e_lenSc, e_lenS, e_tupT, e_tupL, e_tupO, e_tupB, e_lisT, e_lisL, e_lisO, e_lisB, e_min2, e_max2, e_any, e_all, e_sum, e_sorted, e_rev, e_sl, e_oN, e_isi, e_lc, e_wipe0, e_wipe1, e_iA, e_iAb, e_gAq1, e_gAq2, e_gAq3, e_gAqb1, e_gAqb2, e_gAqb3, e_gAqb4, e_no, e_cCh, e_cChI, e_aug, e_decT, e_decF, e_cDispS, e_cDT, e_cDK, e_cDisp1, e_storeA, e_stR1, e_stR2, e_stR3, e_sd1, e_keyD1, e_keyD2, e_keyTD, e_intsD, e_intsD0, e_borT, e_borT2, e_borK, e_borK2, e_argT, e_argT2, e_argK, e_argK2, e_nbT, e_nbK, e_putT, e_putK, e_gAt1, e_gAt2, e_gAt3, e_gAt4, e_gGetDK, e_gGetDT, e_gIxD, e_gInD, e_gNotInD, e_cGet1, e_cGet2, e_dk1, e_dk2, e_dk3, e_dk4, e_dt1, e_dt2, e_del, atI_zero, e_at1, e_at2, e_at3, e_at4, e_at5, e_at6, e_at7, e_at8, e_at9, e_atm, e_V, e_retV, e_unp, e_app, e_store, e_fzE, oS, rsO_some, Rs.bind_ok, Rs.bind_no, Rs.out_ok, Out.then_nx, Out.then_rt, Out.then_ct, Out.then_bk, fin_rt, fin_nx, List.getElem?_cons_zero, List.getElem?_cons_succ, List.set_cons_succ, List.set_cons_zero, List.length_cons, List.length_nil, Nat.reduceAdd, Nat.reduceLT, Nat.reduceLeDiff, Nat.reduceEqDiff, if_true, if_false, Bool.false_eq_true, Bool.not_true, Bool.not_false, and_self, true_and, and_true, List.map_cons, List.map_nil, Option.map_some, sh_int, sh_bool, sh_none, sh_tup, sh_lst, eqv_int, reduceIte, Option.bind_some, Option.bind_none, kitB_ll, kitB_lt, kitB_tt, kitB_tl, kitB_ii, tyD_list, tyD_int, Bool.true_and, Bool.false_and, Bool.and_true, Bool.and_false, Bool.or_true, Bool.true_or, Bool.false_or, Bool.or_false, Bool.and_self, Bool.or_self, e_cAK, List.append_nil, List.nil_append, List.cons_append, e_andB, e_orB, e_andR, e_orR, tyD_tuple, eqv_bool, eqv_none, tyD_bool, tyD_str, tyD_none, kitB_bb, kitB_nb, kitB_bi, kitB_ib, kitB_nl, kitB_nt, beq_self_eq_true, hs, ha, e1]
  cases hc : canM us h s with
  | true =>
    have e : ((usAt us s).all fun u => decide (u ∈ h)) = true := hc
    rw [if_pos e]
    simp only [e_nil, e_seq, e_fz, e_bk, e_ct, e_ret, e_retN, e_drop, e_set, e_if, e_for, e_cC, e_c2, e_c1, e_cA, e_aN, e_aC, e_cB, e_asB, e_bNot, e_bAnd, e_bOr, e_vAnd, e_vOr, e_vNot, e_vIf, e_bYes, e_iL, e_iT, e_iLb, e_iR, e_gL1, e_gL2, e_gL3, e_gT, e_gLb1, e_gLb2, e_gLb3, e_gLb4, e_nb1, e_nb2, e_bor1, e_bor2, e_bor3, e_bor4, e_arg1, e_arg2, e_arg3, e_arg4, e_putd, e_puto, e_toD1, e_toD2, e_allD0, e_allD1, e_allD2, e_gTupl, e_gList, e_tgnm, e_tgtp, e_tg0, e_tg1, e_sq1, e_sq2, e_sq3, e_sq4, e_sq5, e_qv2, e_qv3, e_qv4, e_qv5, e_data1, e_data2, e_data3, e_okI, e_okB, e_i2, e_sub, e_mul, e_mod, e_div, e_pow, e_lt, e_le, e_gt, e_ge, e_neg, e_addI, e_addS, e_addT, e_addL1, e_addL2, e_addL3, e_addL4, e_addL5, e_addL6, e_addL7, e_addL8, e_addL9, e_eq, e_ne, e_in, e_notIn, e_inT, e_inT2, e_inL1, e_inL2, e_inL3, e_is, e_isNot, e_isN1, e_isN2, e_isN3, e_isN4, e_isN5, e_isN6, e_isN7, e_ixT, e_ixL, e_ixO, e_ixB, e_ixSc, e_lenT, e_lenL, e_lenO, e_lenB, e_lenSc, e_lenS, e_tupT, e_tupL, e_tupO, e_tupB, e_lisT, e_lisL, e_lisO, e_lisB, e_min2, e_max2, e_any, e_all, e_sum, e_sorted, e_rev, e_sl, e_oN, e_isi, e_lc, e_wipe0, e_wipe1, e_iA, e_iAb, e_gAq1, e_gAq2, e_gAq3, e_gAqb1, e_gAqb2, e_gAqb3, e_gAqb4, e_no, e_cCh, e_cChI, e_aug, e_decT, e_decF, e_cDispS, e_cDT, e_cDK, e_cDisp1, e_storeA, e_stR1, e_stR2, e_stR3, e_sd1, e_keyD1, e_keyD2, e_keyTD, e_intsD, e_intsD0, e_borT, e_borT2, e_borK, e_borK2, e_argT, e_argT2, e_argK, e_argK2, e_nbT, e_nbK, e_putT, e_putK, e_gAt1, e_gAt2, e_gAt3, e_gAt4, e_gGetDK, e_gGetDT, e_gIxD, e_gInD, e_gNotInD, e_cGet1, e_cGet2, e_dk1, e_dk2, e_dk3, e_dk4, e_dt1, e_dt2, e_del, atI_zero, e_at1, e_at2, e_at3, e_at4, e_at5, e_at6, e_at7, e_at8, e_at9, e_atm, e_V, e_retV, e_unp, e_app, e_store, e_fzE, oS, rsO_some, Rs.bind_ok, Rs.bind_no, Rs.out_ok, Out.then_nx, Out.then_rt, Out.then_ct, Out.then_bk, fin_rt, fin_nx, List.getElem?_cons_zero, List.getElem?_cons_succ, List.set_cons_succ, List.set_cons_zero, List.length_cons, List.length_nil, Nat.reduceAdd, Nat.reduceLT, Nat.reduceLeDiff, Nat.reduceEqDiff, if_true, if_false, Bool.false_eq_true, Bool.not_true, Bool.not_false, and_self, true_and, and_true, List.map_cons, List.map_nil, Option.map_some, sh_int, sh_bool, sh_none, sh_tup, sh_lst, eqv_int, reduceIte, Option.bind_some, Option.bind_none, kitB_ll, kitB_lt, kitB_tt, kitB_tl, kitB_ii, tyD_list, tyD_int, Bool.true_and, Bool.false_and, Bool.and_true, Bool.and_false, Bool.or_true, Bool.true_or, Bool.false_or, Bool.or_false, Bool.and_self, Bool.or_self, e_cAK, List.append_nil, List.nil_append, List.cons_append, e_andB, e_orB, e_andR, e_orR, tyD_tuple, eqv_bool, eqv_none, tyD_bool, tyD_str, tyD_none, kitB_bb, kitB_nb, kitB_bi, kitB_ib, kitB_nl, kitB_nt, beq_self_eq_true]
  | false =>
    have : ¬ ((usAt us s).all fun u => decide (u ∈ h)) = true := by
      have e : ((usAt us s).all fun u => decide (u ∈ h)) = false := hc
      rw [e]; exact Bool.false_ne_true
    rw [if_neg this]
    simp only [e_nil, e_seq, e_fz, e_bk, e_ct, e_ret, e_retN, e_drop, e_set, e_if, e_for, e_cC, e_c2, e_c1, e_cA, e_aN, e_aC, e_cB, e_asB, e_bNot, e_bAnd, e_bOr, e_vAnd, e_vOr, e_vNot, e_vIf, e_bYes, e_iL, e_iT, e_iLb, e_iR, e_gL1, e_gL2, e_gL3, e_gT, e_gLb1, e_gLb2, e_gLb3, e_gLb4, e_nb1, e_nb2, e_bor1, e_bor2, e_bor3, e_bor4, e_arg1, e_arg2, e_arg3, e_arg4, e_putd, e_puto, e_toD1, e_toD2, e_allD0, e_allD1, e_allD2, e_gTupl, e_gList, e_tgnm, e_tgtp, e_tg0, e_tg1, e_sq1, e_sq2, e_sq3, e_sq4, e_sq5, e_qv2, e_qv3, e_qv4, e_qv5, e_data1, e_data2, e_data3, e_okI, e_okB, e_i2, e_sub, e_mul, e_mod, e_div, e_pow, e_lt, e_le, e_gt, e_ge, e_neg, e_addI, e_addS, e_addT, e_addL1, e_addL2, e_addL3, e_addL4, e_addL5, e_addL6, e_addL7, e_addL8, e_addL9, e_eq, e_ne, e_in, e_notIn, e_inT, e_inT2, e_inL1, e_inL2, e_inL3, e_is, e_isNot, e_isN1, e_isN2, e_isN3, e_isN4, e_isN5, e_isN6, e_isN7, e_ixT, e_ixL, e_ixO, e_ixB, e_ixSc, e_lenT, e_lenL, e_lenO, e_lenB, e_lenSc, e_lenS, e_tupT, e_tupL, e_tupO, e_tupB, e_lisT, e_lisL, e_lisO, e_lisB, e_min2, e_max2, e_any, e_all, e_sum, e_sorted, e_rev, e_sl, e_oN, e_isi, e_lc, e_wipe0, e_wipe1, e_iA, e_iAb, e_gAq1, e_gAq2, e_gAq3, e_gAqb1, e_gAqb2, e_gAqb3, e_gAqb4, e_no, e_cCh, e_cChI, e_aug, e_decT, e_decF, e_cDispS, e_cDT, e_cDK, e_cDisp1, e_storeA, e_stR1, e_stR2, e_stR3, e_sd1, e_keyD1, e_keyD2, e_keyTD, e_intsD, e_intsD0, e_borT, e_borT2, e_borK, e_borK2, e_argT, e_argT2, e_argK, e_argK2, e_nbT, e_nbK, e_putT, e_putK, e_gAt1, e_gAt2, e_gAt3, e_gAt4, e_gGetDK, e_gGetDT, e_gIxD, e_gInD, e_gNotInD, e_cGet1, e_cGet2, e_dk1, e_dk2, e_dk3, e_dk4, e_dt1, e_dt2, e_del, atI_zero, e_at1, e_at2, e_at3, e_at4, e_at5, e_at6, e_at7, e_at8, e_at9, e_atm, e_V, e_retV, e_unp, e_app, e_store, e_fzE, oS, rsO_some, Rs.bind_ok, Rs.bind_no, Rs.out_ok, Out.then_nx, Out.then_rt, Out.then_ct, Out.then_bk, fin_rt, fin_nx, List.getElem?_cons_zero, List.getElem?_cons_succ, List.set_cons_succ, List.set_cons_zero, List.length_cons, List.length_nil, Nat.reduceAdd, Nat.reduceLT, Nat.reduceLeDiff, Nat.reduceEqDiff, if_true, if_false, Bool.false_eq_true, Bool.not_true, Bool.not_false, and_self, true_and, and_true, List.map_cons, List.map_nil, Option.map_some, sh_int, sh_bool, sh_none, sh_tup, sh_lst, eqv_int, reduceIte, Option.bind_some, Option.bind_none, kitB_ll, kitB_lt, kitB_tt, kitB_tl, kitB_ii, tyD_list, tyD_int, Bool.true_and, Bool.false_and, Bool.and_true, Bool.and_false, Bool.or_true, Bool.true_or, Bool.false_or, Bool.or_false, Bool.and_self, Bool.or_self, e_cAK, List.append_nil, List.nil_append, List.cons_append, e_andB, e_orB, e_andR, e_orR, tyD_tuple, eqv_bool, eqv_none, tyD_bool, tyD_str, tyD_none, kitB_bb, kitB_nb, kitB_bi, kitB_ib, kitB_nl, kitB_nt, beq_self_eq_true]
theorem law_moved_ok (h : List Int) (s : Int) (hl : h.length ≤ 1000) : F__law_moved [.d (.tuple (h.map .int)), .d (.int s)] = .ok (.d (.tuple ((movM h s).map .int))) := by
  show (sSeq _ _ [some (.d (.tuple (h.map .int))), some (.d (.int s)), none]).fin = _
  have hz : h.length ≤ 1000000 := by omega
  have hz2 : h.length ≤ 999999 := by omega
  have hc : lcF (.nm 2) (cB (c2 gNe (cV 2) (cV 1))) (cV 2) [some (.d (.tuple (h.map .int))), some (.d (.int s)), none] (h.map .int) = .ok ((h.filter fun x => decide (x ≠ s)).map .int) :=
    lc_ints 2 h _ (by simp) fun x _ => by
      simp only [List.set_cons_succ, List.set_cons_zero]
      simp only [e_nil, e_seq, e_fz, e_bk, e_ct, e_ret, e_retN, e_drop, e_set, e_if, e_for, e_cC, e_c2, e_c1, e_cA, e_aN, e_aC, e_cB, e_asB, e_bNot, e_bAnd, e_bOr, e_vAnd, e_vOr, e_vNot, e_vIf, e_bYes, e_iL, e_iT, e_iLb, e_iR, e_gL1, e_gL2, e_gL3, e_gT, e_gLb1, e_gLb2, e_gLb3, e_gLb4, e_nb1, e_nb2, e_bor1, e_bor2, e_bor3, e_bor4, e_arg1, e_arg2, e_arg3, e_arg4, e_putd, e_puto, e_toD1, e_toD2, e_allD0, e_allD1, e_allD2, e_gTupl, e_gList, e_tgnm, e_tgtp, e_tg0, e_tg1, e_sq1, e_sq2, e_sq3, e_sq4, e_sq5, e_qv2, e_qv3, e_qv4, e_qv5, e_data1, e_data2, e_data3, e_okI, e_okB, e_i2, e_sub, e_mul, e_mod, e_div, e_pow, e_lt, e_le, e_gt, e_ge, e_neg, e_addI, e_addS, e_addT, e_addL1, e_addL2, e_addL3, e_addL4, e_addL5, e_addL6, e_addL7, e_addL8, e_addL9, e_eq, e_ne, e_in, e_notIn, e_inT, e_inT2, e_inL1, e_inL2, e_inL3, e_is, e_isNot, e_isN1, e_isN2, e_isN3, e_isN4, e_isN5, e_isN6, e_isN7, e_ixT, e_ixL, e_ixO, e_ixB, e_ixSc, e_lenT, e_lenL, e_lenO, e_lenB, e_lenSc, e_lenS, e_tupT, e_tupL, e_tupO, e_tupB, e_lisT, e_lisL, e_lisO, e_lisB, e_min2, e_max2, e_any, e_all, e_sum, e_sorted, e_rev, e_sl, e_oN, e_isi, e_lc, e_wipe0, e_wipe1, e_iA, e_iAb, e_gAq1, e_gAq2, e_gAq3, e_gAqb1, e_gAqb2, e_gAqb3, e_gAqb4, e_no, e_cCh, e_cChI, e_aug, e_decT, e_decF, e_cDispS, e_cDT, e_cDK, e_cDisp1, e_storeA, e_stR1, e_stR2, e_stR3, e_sd1, e_keyD1, e_keyD2, e_keyTD, e_intsD, e_intsD0, e_borT, e_borT2, e_borK, e_borK2, e_argT, e_argT2, e_argK, e_argK2, e_nbT, e_nbK, e_putT, e_putK, e_gAt1, e_gAt2, e_gAt3, e_gAt4, e_gGetDK, e_gGetDT, e_gIxD, e_gInD, e_gNotInD, e_cGet1, e_cGet2, e_dk1, e_dk2, e_dk3, e_dk4, e_dt1, e_dt2, e_del, atI_zero, e_at1, e_at2, e_at3, e_at4, e_at5, e_at6, e_at7, e_at8, e_at9, e_atm, e_V, e_retV, e_unp, e_app, e_store, e_fzE, oS, rsO_some, Rs.bind_ok, Rs.bind_no, Rs.out_ok, Out.then_nx, Out.then_rt, Out.then_ct, Out.then_bk, fin_rt, fin_nx, List.getElem?_cons_zero, List.getElem?_cons_succ, List.set_cons_succ, List.set_cons_zero, List.length_cons, List.length_nil, Nat.reduceAdd, Nat.reduceLT, Nat.reduceLeDiff, Nat.reduceEqDiff, if_true, if_false, Bool.false_eq_true, Bool.not_true, Bool.not_false, and_self, true_and, and_true, List.map_cons, List.map_nil, Option.map_some, sh_int, sh_bool, sh_none, sh_tup, sh_lst, eqv_int, reduceIte, Option.bind_some, Option.bind_none, kitB_ll, kitB_lt, kitB_tt, kitB_tl, kitB_ii, tyD_list, tyD_int, Bool.true_and, Bool.false_and, Bool.and_true, Bool.and_false, Bool.or_true, Bool.true_or, Bool.false_or, Bool.or_false, Bool.and_self, Bool.or_self, e_cAK, List.append_nil, List.nil_append, List.cons_append, e_andB, e_orB, e_andR, e_orR, tyD_tuple, eqv_bool, eqv_none, tyD_bool, tyD_str, tyD_none, kitB_bb, kitB_nb, kitB_bi, kitB_ib, kitB_nl, kitB_nt, beq_self_eq_true, ne_int]
  have hm : (h.map PyData.int ++ [.int s]) = (h ++ [s]).map PyData.int := by simp
  by_cases hs : s ∈ h
  · have : movM h s = h.filter fun x => decide (x ≠ s) := if_pos hs
    rw [this]
    simp only [e_nil, e_seq, e_fz, e_bk, e_ct, e_ret, e_retN, e_drop, e_set, e_if, e_for, e_cC, e_c2, e_c1, e_cA, e_aN, e_aC, e_cB, e_asB, e_bNot, e_bAnd, e_bOr, e_vAnd, e_vOr, e_vNot, e_vIf, e_bYes, e_iL, e_iT, e_iLb, e_iR, e_gL1, e_gL2, e_gL3, e_gT, e_gLb1, e_gLb2, e_gLb3, e_gLb4, e_nb1, e_nb2, e_bor1, e_bor2, e_bor3, e_bor4, e_arg1, e_arg2, e_arg3, e_arg4, e_putd, e_puto, e_toD1, e_toD2, e_allD0, e_allD1, e_allD2, e_gTupl, e_gList, e_tgnm, e_tgtp, e_tg0, e_tg1, e_sq1, e_sq2, e_sq3, e_sq4, e_sq5, e_qv2, e_qv3, e_qv4, e_qv5, e_data1, e_data2, e_data3, e_okI, e_okB, e_i2, e_sub, e_mul, e_mod, e_div, e_pow, e_lt, e_le, e_gt, e_ge, e_neg, e_addI, e_addS, e_addT, e_addL1, e_addL2, e_addL3, e_addL4, e_addL5, e_addL6, e_addL7, e_addL8, e_addL9, e_eq, e_ne, e_in, e_notIn, e_inT, e_inT2, e_inL1, e_inL2, e_inL3, e_is, e_isNot, e_isN1, e_isN2, e_isN3, e_isN4, e_isN5, e_isN6, e_isN7, e_ixT, e_ixL, e_ixO, e_ixB, e_ixSc, e_lenT, e_lenL, e_lenO, e_lenB, e_lenSc, e_lenS, e_tupT, e_tupL, e_tupO, e_tupB, e_lisT, e_lisL, e_lisO, e_lisB, e_min2, e_max2, e_any, e_all, e_sum, e_sorted, e_rev, e_sl, e_oN, e_isi, e_lc, e_wipe0, e_wipe1, e_iA, e_iAb, e_gAq1, e_gAq2, e_gAq3, e_gAqb1, e_gAqb2, e_gAqb3, e_gAqb4, e_no, e_cCh, e_cChI, e_aug, e_decT, e_decF, e_cDispS, e_cDT, e_cDK, e_cDisp1, e_storeA, e_stR1, e_stR2, e_stR3, e_sd1, e_keyD1, e_keyD2, e_keyTD, e_intsD, e_intsD0, e_borT, e_borT2, e_borK, e_borK2, e_argT, e_argT2, e_argK, e_argK2, e_nbT, e_nbK, e_putT, e_putK, e_gAt1, e_gAt2, e_gAt3, e_gAt4, e_gGetDK, e_gGetDT, e_gIxD, e_gInD, e_gNotInD, e_cGet1, e_cGet2, e_dk1, e_dk2, e_dk3, e_dk4, e_dt1, e_dt2, e_del, atI_zero, e_at1, e_at2, e_at3, e_at4, e_at5, e_at6, e_at7, e_at8, e_at9, e_atm, e_V, e_retV, e_unp, e_app, e_store, e_fzE, oS, rsO_some, Rs.bind_ok, Rs.bind_no, Rs.out_ok, Out.then_nx, Out.then_rt, Out.then_ct, Out.then_bk, fin_rt, fin_nx, List.getElem?_cons_zero, List.getElem?_cons_succ, List.set_cons_succ, List.set_cons_zero, List.length_cons, List.length_nil, Nat.reduceAdd, Nat.reduceLT, Nat.reduceLeDiff, Nat.reduceEqDiff, if_true, if_false, Bool.false_eq_true, Bool.not_true, Bool.not_false, and_self, true_and, and_true, List.map_cons, List.map_nil, Option.map_some, sh_int, sh_bool, sh_none, sh_tup, sh_lst, eqv_int, reduceIte, Option.bind_some, Option.bind_none, kitB_ll, kitB_lt, kitB_tt, kitB_tl, kitB_ii, tyD_list, tyD_int, Bool.true_and, Bool.false_and, Bool.and_true, Bool.and_false, Bool.or_true, Bool.true_or, Bool.false_or, Bool.or_false, Bool.and_self, Bool.or_self, e_cAK, List.append_nil, List.nil_append, List.cons_append, e_andB, e_orB, e_andR, e_orR, tyD_tuple, eqv_bool, eqv_none, tyD_bool, tyD_str, tyD_none, kitB_bb, kitB_nb, kitB_bi, kitB_ib, kitB_nl, kitB_nt, beq_self_eq_true, anyI, decide_eq_true hs, List.length_map, if_pos hz, hc]
  · have : movM h s = isort (h ++ [s]) := if_neg hs
    rw [this]
    simp only [e_nil, e_seq, e_fz, e_bk, e_ct, e_ret, e_retN, e_drop, e_set, e_if, e_for, e_cC, e_c2, e_c1, e_cA, e_aN, e_aC, e_cB, e_asB, e_bNot, e_bAnd, e_bOr, e_vAnd, e_vOr, e_vNot, e_vIf, e_bYes, e_iL, e_iT, e_iLb, e_iR, e_gL1, e_gL2, e_gL3, e_gT, e_gLb1, e_gLb2, e_gLb3, e_gLb4, e_nb1, e_nb2, e_bor1, e_bor2, e_bor3, e_bor4, e_arg1, e_arg2, e_arg3, e_arg4, e_putd, e_puto, e_toD1, e_toD2, e_allD0, e_allD1, e_allD2, e_gTupl, e_gList, e_tgnm, e_tgtp, e_tg0, e_tg1, e_sq1, e_sq2, e_sq3, e_sq4, e_sq5, e_qv2, e_qv3, e_qv4, e_qv5, e_data1, e_data2, e_data3, e_okI, e_okB, e_i2, e_sub, e_mul, e_mod, e_div, e_pow, e_lt, e_le, e_gt, e_ge, e_neg, e_addI, e_addS, e_addT, e_addL1, e_addL2, e_addL3, e_addL4, e_addL5, e_addL6, e_addL7, e_addL8, e_addL9, e_eq, e_ne, e_in, e_notIn, e_inT, e_inT2, e_inL1, e_inL2, e_inL3, e_is, e_isNot, e_isN1, e_isN2, e_isN3, e_isN4, e_isN5, e_isN6, e_isN7, e_ixT, e_ixL, e_ixO, e_ixB, e_ixSc, e_lenT, e_lenL, e_lenO, e_lenB, e_lenSc, e_lenS, e_tupT, e_tupL, e_tupO, e_tupB, e_lisT, e_lisL, e_lisO, e_lisB, e_min2, e_max2, e_any, e_all, e_sum, e_sorted, e_rev, e_sl, e_oN, e_isi, e_lc, e_wipe0, e_wipe1, e_iA, e_iAb, e_gAq1, e_gAq2, e_gAq3, e_gAqb1, e_gAqb2, e_gAqb3, e_gAqb4, e_no, e_cCh, e_cChI, e_aug, e_decT, e_decF, e_cDispS, e_cDT, e_cDK, e_cDisp1, e_storeA, e_stR1, e_stR2, e_stR3, e_sd1, e_keyD1, e_keyD2, e_keyTD, e_intsD, e_intsD0, e_borT, e_borT2, e_borK, e_borK2, e_argT, e_argT2, e_argK, e_argK2, e_nbT, e_nbK, e_putT, e_putK, e_gAt1, e_gAt2, e_gAt3, e_gAt4, e_gGetDK, e_gGetDT, e_gIxD, e_gInD, e_gNotInD, e_cGet1, e_cGet2, e_dk1, e_dk2, e_dk3, e_dk4, e_dt1, e_dt2, e_del, atI_zero, e_at1, e_at2, e_at3, e_at4, e_at5, e_at6, e_at7, e_at8, e_at9, e_atm, e_V, e_retV, e_unp, e_app, e_store, e_fzE, oS, rsO_some, Rs.bind_ok, Rs.bind_no, Rs.out_ok, Out.then_nx, Out.then_rt, Out.then_ct, Out.then_bk, fin_rt, fin_nx, List.getElem?_cons_zero, List.getElem?_cons_succ, List.set_cons_succ, List.set_cons_zero, List.length_cons, List.length_nil, Nat.reduceAdd, Nat.reduceLT, Nat.reduceLeDiff, Nat.reduceEqDiff, if_true, if_false, Bool.false_eq_true, Bool.not_true, Bool.not_false, and_self, true_and, and_true, List.map_cons, List.map_nil, Option.map_some, sh_int, sh_bool, sh_none, sh_tup, sh_lst, eqv_int, reduceIte, Option.bind_some, Option.bind_none, kitB_ll, kitB_lt, kitB_tt, kitB_tl, kitB_ii, tyD_list, tyD_int, Bool.true_and, Bool.false_and, Bool.and_true, Bool.and_false, Bool.or_true, Bool.true_or, Bool.false_or, Bool.or_false, Bool.and_self, Bool.or_self, e_cAK, List.append_nil, List.nil_append, List.cons_append, e_andB, e_orB, e_andR, e_orR, tyD_tuple, eqv_bool, eqv_none, tyD_bool, tyD_str, tyD_none, kitB_bb, kitB_nb, kitB_bi, kitB_ib, kitB_nl, kitB_nt, beq_self_eq_true, anyI, decide_eq_false hs, List.length_map, if_pos hz2, hm, intsD_map]
theorem law_can_ok (us : List (List Int)) (h : List Int) (s : Int) (h0 : 0 ≤ s) (h1 : s < us.length) (hl : (usAt us s).length ≤ 1000000) : F__law_can [.d (.tuple (encU us)), .d (.tuple (h.map .int)), .d (.int s)] = .ok (.d (.bool (canM us h s))) := by
  have ha := encU_at us h0 h1
  have hc : lcF (.nm 3) bYes (c2 gIn (cV 3) (cV 1)) [some (.d (.tuple (encU us))), some (.d (.tuple (h.map .int))), some (.d (.int s)), none] ((usAt us s).map .int) = .ok (((usAt us s).map fun u => decide (u ∈ h)).map .bool) := by
    rw [lcF_map PyData.int (fun _ => true) (fun u => .bool (decide (u ∈ h))) (usAt us s) fun x _ => ⟨_, rfl, rfl, fun _ => ⟨.d (.bool (decide (x ∈ h))), by
      simp only [List.set_cons_succ, List.set_cons_zero]
      simp only [e_nil, e_seq, e_fz, e_bk, e_ct, e_ret, e_retN, e_drop, e_set, e_if, e_for, e_cC, e_c2, e_c1, e_cA, e_aN, e_aC, e_cB, e_asB, e_bNot, e_bAnd, e_bOr, e_vAnd, e_vOr, e_vNot, e_vIf, e_bYes, e_iL, e_iT, e_iLb, e_iR, e_gL1, e_gL2, e_gL3, e_gT, e_gLb1, e_gLb2, e_gLb3, e_gLb4, e_nb1, e_nb2, e_bor1, e_bor2, e_bor3, e_bor4, e_arg1, e_arg2, e_arg3, e_arg4, e_putd, e_puto, e_toD1, e_toD2, e_allD0, e_allD1, e_allD2, e_gTupl, e_gList, e_tgnm, e_tgtp, e_tg0, e_tg1, e_sq1, e_sq2, e_sq3, e_sq4, e_sq5, e_qv2, e_qv3, e_qv4, e_qv5, e_data1, e_data2, e_data3, e_okI, e_okB, e_i2, e_sub, e_mul, e_mod, e_div, e_pow, e_lt, e_le, e_gt, e_ge, e_neg, e_addI, e_addS, e_addT, e_addL1, e_addL2, e_addL3, e_addL4, e_addL5, e_addL6, e_addL7, e_addL8, e_addL9, e_eq, e_ne, e_in, e_notIn, e_inT, e_inT2, e_inL1, e_inL2, e_inL3, e_is, e_isNot, e_isN1, e_isN2, e_isN3, e_isN4, e_isN5, e_isN6, e_isN7, e_ixT, e_ixL, e_ixO, e_ixB, e_ixSc, e_lenT, e_lenL, e_lenO, e_lenB, e_lenSc, e_lenS, e_tupT, e_tupL, e_tupO, e_tupB, e_lisT, e_lisL, e_lisO, e_lisB, e_min2, e_max2, e_any, e_all, e_sum, e_sorted, e_rev, e_sl, e_oN, e_isi, e_lc, e_wipe0, e_wipe1, e_iA, e_iAb, e_gAq1, e_gAq2, e_gAq3, e_gAqb1, e_gAqb2, e_gAqb3, e_gAqb4, e_no, e_cCh, e_cChI, e_aug, e_decT, e_decF, e_cDispS, e_cDT, e_cDK, e_cDisp1, e_storeA, e_stR1, e_stR2, e_stR3, e_sd1, e_keyD1, e_keyD2, e_keyTD, e_intsD, e_intsD0, e_borT, e_borT2, e_borK, e_borK2, e_argT, e_argT2, e_argK, e_argK2, e_nbT, e_nbK, e_putT, e_putK, e_gAt1, e_gAt2, e_gAt3, e_gAt4, e_gGetDK, e_gGetDT, e_gIxD, e_gInD, e_gNotInD, e_cGet1, e_cGet2, e_dk1, e_dk2, e_dk3, e_dk4, e_dt1, e_dt2, e_del, atI_zero, e_at1, e_at2, e_at3, e_at4, e_at5, e_at6, e_at7, e_at8, e_at9, e_atm, e_V, e_retV, e_unp, e_app, e_store, e_fzE, oS, rsO_some, Rs.bind_ok, Rs.bind_no, Rs.out_ok, Out.then_nx, Out.then_rt, Out.then_ct, Out.then_bk, fin_rt, fin_nx, List.getElem?_cons_zero, List.getElem?_cons_succ, List.set_cons_succ, List.set_cons_zero, List.length_cons, List.length_nil, Nat.reduceAdd, Nat.reduceLT, Nat.reduceLeDiff, Nat.reduceEqDiff, if_true, if_false, Bool.false_eq_true, Bool.not_true, Bool.not_false, and_self, true_and, and_true, List.map_cons, List.map_nil, Option.map_some, sh_int, sh_bool, sh_none, sh_tup, sh_lst, eqv_int, reduceIte, Option.bind_some, Option.bind_none, kitB_ll, kitB_lt, kitB_tt, kitB_tl, kitB_ii, tyD_list, tyD_int, Bool.true_and, Bool.false_and, Bool.and_true, Bool.and_false, Bool.or_true, Bool.true_or, Bool.false_or, Bool.or_false, Bool.and_self, Bool.or_self, e_cAK, List.append_nil, List.nil_append, List.cons_append, e_andB, e_orB, e_andR, e_orR, tyD_tuple, eqv_bool, eqv_none, tyD_bool, tyD_str, tyD_none, kitB_bb, kitB_nb, kitB_bi, kitB_ib, kitB_nl, kitB_nt, beq_self_eq_true, anyI], rfl⟩⟩]
    rw [List.filter_eq_self.mpr (fun _ _ => rfl), List.map_map]
    rfl
  show (sRet _ [some (.d (.tuple (encU us))), some (.d (.tuple (h.map .int))), some (.d (.int s)), none]).fin = _
  simp only [e_nil, e_seq, e_fz, e_bk, e_ct, e_ret, e_retN, e_drop, e_set, e_if, e_for, e_cC, e_c2, e_c1, e_cA, e_aN, e_aC, e_cB, e_asB, e_bNot, e_bAnd, e_bOr, e_vAnd, e_vOr, e_vNot, e_vIf, e_bYes, e_iL, e_iT, e_iLb, e_iR, e_gL1, e_gL2, e_gL3, e_gT, e_gLb1, e_gLb2, e_gLb3, e_gLb4, e_nb1, e_nb2, e_bor1, e_bor2, e_bor3, e_bor4, e_arg1, e_arg2, e_arg3, e_arg4, e_putd, e_puto, e_toD1, e_toD2, e_allD0, e_allD1, e_allD2, e_gTupl, e_gList, e_tgnm, e_tgtp, e_tg0, e_tg1, e_sq1, e_sq2, e_sq3, e_sq4, e_sq5, e_qv2, e_qv3, e_qv4, e_qv5, e_data1, e_data2, e_data3, e_okI, e_okB, e_i2, e_sub, e_mul, e_mod, e_div, e_pow, e_lt, e_le, e_gt, e_ge, e_neg, e_addI, e_addS, e_addT, e_addL1, e_addL2, e_addL3, e_addL4, e_addL5, e_addL6, e_addL7, e_addL8, e_addL9, e_eq, e_ne, e_in, e_notIn, e_inT, e_inT2, e_inL1, e_inL2, e_inL3, e_is, e_isNot, e_isN1, e_isN2, e_isN3, e_isN4, e_isN5, e_isN6, e_isN7, e_ixT, e_ixL, e_ixO, e_ixB, e_ixSc, e_lenT, e_lenL, e_lenO, e_lenB, e_lenSc, e_lenS, e_tupT, e_tupL, e_tupO, e_tupB, e_lisT, e_lisL, e_lisO, e_lisB, e_min2, e_max2, e_any, e_all, e_sum, e_sorted, e_rev, e_sl, e_oN, e_isi, e_lc, e_wipe0, e_wipe1, e_iA, e_iAb, e_gAq1, e_gAq2, e_gAq3, e_gAqb1, e_gAqb2, e_gAqb3, e_gAqb4, e_no, e_cCh, e_cChI, e_aug, e_decT, e_decF, e_cDispS, e_cDT, e_cDK, e_cDisp1, e_storeA, e_stR1, e_stR2, e_stR3, e_sd1, e_keyD1, e_keyD2, e_keyTD, e_intsD, e_intsD0, e_borT, e_borT2, e_borK, e_borK2, e_argT, e_argT2, e_argK, e_argK2, e_nbT, e_nbK, e_putT, e_putK, e_gAt1, e_gAt2, e_gAt3, e_gAt4, e_gGetDK, e_gGetDT, e_gIxD, e_gInD, e_gNotInD, e_cGet1, e_cGet2, e_dk1, e_dk2, e_dk3, e_dk4, e_dt1, e_dt2, e_del, atI_zero, e_at1, e_at2, e_at3, e_at4, e_at5, e_at6, e_at7, e_at8, e_at9, e_atm, e_V, e_retV, e_unp, e_app, e_store, e_fzE, oS, rsO_some, Rs.bind_ok, Rs.bind_no, Rs.out_ok, Out.then_nx, Out.then_rt, Out.then_ct, Out.then_bk, fin_rt, fin_nx, List.getElem?_cons_zero, List.getElem?_cons_succ, List.set_cons_succ, List.set_cons_zero, List.length_cons, List.length_nil, Nat.reduceAdd, Nat.reduceLT, Nat.reduceLeDiff, Nat.reduceEqDiff, if_true, if_false, Bool.false_eq_true, Bool.not_true, Bool.not_false, and_self, true_and, and_true, List.map_cons, List.map_nil, Option.map_some, sh_int, sh_bool, sh_none, sh_tup, sh_lst, eqv_int, reduceIte, Option.bind_some, Option.bind_none, kitB_ll, kitB_lt, kitB_tt, kitB_tl, kitB_ii, tyD_list, tyD_int, Bool.true_and, Bool.false_and, Bool.and_true, Bool.and_false, Bool.or_true, Bool.true_or, Bool.false_or, Bool.or_false, Bool.and_self, Bool.or_self, e_cAK, List.append_nil, List.nil_append, List.cons_append, e_andB, e_orB, e_andR, e_orR, tyD_tuple, eqv_bool, eqv_none, tyD_bool, tyD_str, tyD_none, kitB_bb, kitB_nb, kitB_bi, kitB_ib, kitB_nl, kitB_nt, beq_self_eq_true, ha, List.length_map, if_pos hl, hc, boolsD_map]
  rw [List.all_map]
  rfl
/-! ### plans walked -/
def confsM : List Int → List Int → List (List Int)
  | h, [] => [h]
  | h, s :: r => h :: confsM (movM h s) r
def endM (h p : List Int) : List Int := p.foldl movM h
def goodM (us : List (List Int)) : List Int → List Int → Prop
  | _, [] => True
  | h, s :: r => (0 ≤ s ∧ s < us.length ∧ canM us h s = true) ∧ goodM us (movM h s) r
theorem confs_snoc (s : Int) : ∀ (p h : List Int), confsM h (p ++ [s]) = confsM h p ++ [movM (endM h p) s]
  | [], h => rfl
  | x :: p, h => by
    show h :: confsM (movM h x) (p ++ [s]) = h :: (confsM (movM h x) p ++ [movM (endM (movM h x) p) s])
    rw [confs_snoc s p (movM h x)]
theorem good_snoc (us : List (List Int)) (s : Int) : ∀ (p h : List Int), goodM us h p → (0 ≤ s ∧ s < us.length ∧ canM us (endM h p) s = true) → goodM us h (p ++ [s])
  | [], h, _, g => ⟨g, trivial⟩
  | x :: p, h, k, g => ⟨k.1, good_snoc us s p (movM h x) k.2 g⟩
theorem end_snoc (h p : List Int) (s : Int) : endM h (p ++ [s]) = movM (endM h p) s := by
  unfold endM
  rw [List.foldl_append]
  rfl
theorem confs_len : ∀ (p h : List Int), (confsM h p).length = p.length + 1
  | [], h => rfl
  | x :: p, h => by
    show (confsM (movM h x) p).length + 1 = _
    rw [confs_len p]; rfl
theorem confs_bound : ∀ (p h : List Int) (c : List Int), c ∈ confsM h p → c.length ≤ h.length + p.length
  | [], h, c, hc => by
    rw [List.mem_singleton.mp hc]; simp
  | x :: p, h, c, hc => by
    have hm := movM_len h x
    rcases List.mem_cons.mp hc with rfl | hc
    · simp
    · have := confs_bound p (movM h x) c hc
      simp
      omega
theorem confs_last : ∀ (p h : List Int), ∃ xs, confsM h p = xs ++ [endM h p]
  | [], h => ⟨[], rfl⟩
  | x :: p, h => by
    obtain ⟨xs, e⟩ := confs_last p (movM h x)
    exact ⟨h :: xs, by show h :: confsM (movM h x) p = _; rw [e]; rfl⟩
theorem e_max1 (r : RV) : gMax1 [r] = (rsO r.qv).bind fun xs => (rsO (intsD xs)).bind fun bs => (rsO (maxL bs)).bind okI := rfl
/-! ### strictly ascending configurations; moves taken back -/
def Up (h : List Int) : Prop := h.Pairwise (· < ·)
theorem Up.nodup {h : List Int} (u : Up h) : h.Nodup := List.Pairwise.imp (fun hab => by omega) u
theorem Up.le {h : List Int} (u : Up h) : h.Pairwise (· ≤ ·) := List.Pairwise.imp (fun hab => by omega) u
theorem up_of {h : List Int} (n : h.Nodup) (s : h.Pairwise (· ≤ ·)) : Up h := by
  have := List.Pairwise.and n s
  exact List.Pairwise.imp (fun hab => by have := hab.1; have := hab.2; omega) this
theorem mem_movM {h : List Int} {s x : Int} : x ∈ movM h s ↔ if s ∈ h then (x ∈ h ∧ x ≠ s) else (x ∈ h ∨ x = s) := by
  unfold movM
  split
  · simp
  · rw [(isort_perm _).mem_iff]; simp
theorem movM_up {h : List Int} (u : Up h) (s : Int) : Up (movM h s) := by
  unfold movM
  split
  · exact List.Pairwise.filter _ u
  · rename_i hs
    refine up_of ?_ (isort_sorted _)
    rw [(isort_perm _).nodup_iff, List.nodup_append]
    refine ⟨u.nodup, by simp, fun a ha b hb e => hs ?_⟩
    rw [List.mem_singleton.mp hb] at e
    exact e ▸ ha
theorem Up.ext {h k : List Int} (u : Up h) (v : Up k) (e : ∀ x, x ∈ h ↔ x ∈ k) : h = k :=
  sorted_uniq ((List.perm_ext_iff_of_nodup u.nodup v.nodup).mpr e) u.le v.le
theorem mem_out {h : List Int} {s x : Int} (hs : s ∈ h) : x ∈ movM h s ↔ x ∈ h ∧ x ≠ s := by rw [mem_movM, if_pos hs]
theorem mem_in {h : List Int} {s x : Int} (hs : s ∉ h) : x ∈ movM h s ↔ x ∈ h ∨ x = s := by rw [mem_movM, if_neg hs]
theorem movM_back {h : List Int} (u : Up h) (s : Int) : movM (movM h s) s = h := by
  refine (movM_up (movM_up u s) s).ext u fun x => ?_
  by_cases hs : s ∈ h
  · have h1 : s ∉ movM h s := fun z => ((mem_out hs).mp z).2 rfl
    rw [mem_in h1, mem_out hs]
    constructor
    · rintro (z | rfl)
      · exact z.1
      · exact hs
    · intro z
      by_cases e : x = s
      · exact .inr e
      · exact .inl ⟨z, e⟩
  · have h1 : s ∈ movM h s := (mem_in hs).mpr (.inr rfl)
    rw [mem_out h1, mem_in hs]
    constructor
    · rintro ⟨z | z, w⟩
      · exact z
      · exact absurd z w
    · exact fun z => ⟨.inl z, fun e => hs (e ▸ z)⟩
theorem can_back {most : Nat} {us : List (List Int)} {ts : List Int} (wf : WF most us ts) {h : List Int} {s : Int} (s0 : 0 ≤ s) (s1 : s < us.length) : canM us (movM h s) s = canM us h s := by
  have key : ∀ x ∈ usAt us s, x ≠ s := fun x hx => by
    have hs : s.toNat < us.length := by omega
    have := wf.use s.toNat us[s.toNat] (List.getElem?_eq_getElem hs)
    have e : usAt us s = us[s.toNat] := by simp [usAt, hs]
    rw [e] at hx
    have := this.hi x hx
    omega
  have mm : ∀ x ∈ usAt us s, (x ∈ movM h s ↔ x ∈ h) := fun x hx => by
    have hk := key x hx
    by_cases hs : s ∈ h
    · rw [mem_out hs]; exact ⟨fun z => z.1, fun z => ⟨z, hk⟩⟩
    · rw [mem_in hs]; exact ⟨fun z => z.resolve_right hk, .inl⟩
  unfold canM
  rw [Bool.eq_iff_iff, List.all_eq_true, List.all_eq_true]
  exact ⟨fun z x hx => by have := z x hx; simp only [decide_eq_true_eq] at this ⊢; exact (mm x hx).mp this, fun z x hx => by have := z x hx; simp only [decide_eq_true_eq] at this ⊢; exact (mm x hx).mpr this⟩
theorem up_end {h : List Int} (u : Up h) : ∀ p : List Int, Up (endM h p) := by
  intro p
  induction p generalizing h with
  | nil => exact u
  | cons s p ih => exact ih (movM_up u s)
theorem rev_walk {most : Nat} {us : List (List Int)} {ts : List Int} (wf : WF most us ts) : ∀ (p h : List Int), Up h → goodM us h p → goodM us (endM h p) p.reverse ∧ confsM (endM h p) p.reverse = (confsM h p).reverse ∧ endM (endM h p) p.reverse = h
  | [], h, _, _ => ⟨trivial, rfl, rfl⟩
  | s :: p, h, u, g => by
    obtain ⟨i1, i2, i3⟩ := rev_walk wf p (movM h s) (movM_up u s) g.2
    have e : endM h (s :: p) = endM (movM h s) p := rfl
    rw [e, List.reverse_cons]
    refine ⟨good_snoc us s _ _ i1 ?_, ?_, ?_⟩
    · rw [i3, can_back wf g.1.1 g.1.2.1]; exact g.1
    · rw [confs_snoc, i2, i3, movM_back u]
      show _ = (h :: confsM (movM h s) p).reverse
      rw [List.reverse_cons]
    · rw [end_snoc, i3, movM_back u]
theorem movM_parity {h : List Int} (u : Up h) (s : Int) : (movM h s).length % 2 = (h.length + 1) % 2 := by
  unfold movM
  split
  · rename_i hs
    have e : (h.filter fun x => decide (x ≠ s)) = h.erase s := by
      rw [u.nodup.erase_eq_filter]
      congr 1
      funext x
      simp [bne]
      rfl
    rw [e, List.length_erase_of_mem hs]
    have := List.length_pos_of_mem hs
    omega
  · rw [(isort_perm _).length_eq]; simp
theorem end_parity : ∀ (p h : List Int), Up h → (endM h p).length % 2 = (h.length + p.length) % 2
  | [], h, _ => rfl
  | s :: p, h, u => by
    have := end_parity p (movM h s) (movM_up u s)
    have := movM_parity u s
    show (endM (movM h s) p).length % 2 = _
    simp
    omega
/-! ### rows in the order of their length, then from the left -/
section
variable {L : Type} (lt : L → L → Prop)
def lexL : List L → List L → Prop
  | x :: xs, y :: ys => lt x y ∨ (x = y ∧ lexL xs ys)
  | _, _ => False
def SL (p q : List L) : Prop := p.length < q.length ∨ (p.length = q.length ∧ lexL lt p q)
variable {lt}
theorem lexL_trans (tr : ∀ a b c, lt a b → lt b c → lt a c) : ∀ {p q r : List L}, lexL lt p q → lexL lt q r → lexL lt p r
  | [], _, _, h, _ => by cases h
  | _ :: _, [], _, h, _ => by cases h
  | _ :: _, _ :: _, [], _, h => by cases h
  | x :: xs, y :: ys, z :: zs, h, k => by
    rcases h with h | ⟨rfl, h⟩
    · rcases k with k | ⟨rfl, k⟩
      · exact .inl (tr _ _ _ h k)
      · exact .inl h
    · rcases k with k | ⟨rfl, k⟩
      · exact .inl k
      · exact .inr ⟨rfl, lexL_trans tr h k⟩
theorem SL.trans (tr : ∀ a b c, lt a b → lt b c → lt a c) {p q r : List L} (h : SL lt p q) (k : SL lt q r) : SL lt p r := by
  rcases h with h | ⟨h1, h2⟩
  · rcases k with k | ⟨k1, k2⟩
    · exact .inl (by omega)
    · exact .inl (by omega)
  · rcases k with k | ⟨k1, k2⟩
    · exact .inl (by omega)
    · exact .inr ⟨by omega, lexL_trans tr h2 k2⟩
theorem lexL_app : ∀ {p q : List L} (a b : List L), lexL lt p q → lexL lt (p ++ a) (q ++ b)
  | [], _, _, _, h => by cases h
  | _ :: _, [], _, _, h => by cases h
  | x :: xs, y :: ys, a, b, h => by
    rcases h with h | ⟨rfl, h⟩
    · exact .inl h
    · exact .inr ⟨rfl, lexL_app a b h⟩
theorem lexL_last {x y : L} (h : lt x y) : ∀ p : List L, lexL lt (p ++ [x]) (p ++ [y])
  | [] => .inl h
  | z :: p => .inr ⟨rfl, lexL_last h p⟩
theorem SL.snoc {p q : List L} (h : SL lt p q) (x y : L) : SL lt (p ++ [x]) (q ++ [y]) := by
  rcases h with h | ⟨h1, h2⟩
  · exact .inl (by simp; omega)
  · exact .inr ⟨by simp; omega, lexL_app _ _ h2⟩
theorem SL.last {x y : L} (h : lt x y) (p : List L) : SL lt (p ++ [x]) (p ++ [y]) := .inr ⟨by simp, lexL_last h p⟩
theorem SL.nil (p : List L) (x : L) : SL lt [] (p ++ [x]) := .inl (by simp)
theorem lexL_irr (ir : ∀ a, ¬ lt a a) : ∀ p : List L, ¬ lexL lt p p
  | [], h => h
  | x :: p, h => by
    rcases h with h | ⟨_, h⟩
    · exact ir x h
    · exact lexL_irr ir p h
theorem SL.irr (ir : ∀ a, ¬ lt a a) (p : List L) (h : SL lt p p) : False := by
  rcases h with h | ⟨_, h⟩
  · omega
  · exact lexL_irr ir p h
theorem SL.len {p q : List L} (h : p = q ∨ SL lt p q) : p.length ≤ q.length := by
  rcases h with rfl | h | h
  · exact Nat.le_refl _
  · omega
  · omega
end
/-! ### searching level by level -/
section
variable {C L : Type} [DecidableEq C]
def tget (T : List (C × List L)) (c : C) : Option (List L) := (T.find? fun p => decide (p.1 = c)).map (·.2)
theorem tget_cons (e : C × List L) (T : List (C × List L)) (c : C) : tget (e :: T) c = if e.1 = c then some e.2 else tget T c := by
  unfold tget
  by_cases h : e.1 = c <;> simp [List.find?_cons, h]
theorem tget_app (T U : List (C × List L)) (c : C) : tget (T ++ U) c = (tget T c).or (tget U c) := by
  induction T with
  | nil => rfl
  | cons e T ih => rw [List.cons_append, tget_cons, tget_cons, ih]; split <;> rfl
theorem tget_mem {T : List (C × List L)} {c : C} {p : List L} (h : tget T c = some p) : (c, p) ∈ T := by
  induction T with
  | nil => cases h
  | cons e T ih =>
    rw [tget_cons] at h
    split at h
    · rename_i he
      cases h; subst he; exact List.mem_cons_self
    · exact List.mem_cons_of_mem _ (ih h)
theorem tget_none {T : List (C × List L)} {c : C} (h : tget T c = none) : ∀ e ∈ T, e.1 ≠ c := by
  induction T with
  | nil => simp
  | cons e T ih =>
    rw [tget_cons] at h
    split at h
    · cases h
    · rename_i he
      intro f hf
      rcases List.mem_cons.mp hf with rfl | hf
      · exact he
      · exact ih h f hf
theorem tget_of {T : List (C × List L)} {c : C} {p : List L} (n : (T.map (·.1)).Nodup) (h : (c, p) ∈ T) : tget T c = some p := by
  induction T with
  | nil => cases h
  | cons e T ih =>
    rw [List.map_cons, List.nodup_cons] at n
    rw [tget_cons]
    rcases List.mem_cons.mp h with rfl | h
    · rw [if_pos rfl]
    · rw [if_neg fun z => n.1 (by rw [z]; exact List.mem_map.mpr ⟨_, h, rfl⟩)]
      exact ih n.2 h
theorem tget_absent {T : List (C × List L)} {c : C} (h : ∀ e ∈ T, e.1 ≠ c) : tget T c = none := by
  cases e : tget T c with
  | none => rfl
  | some p => exact absurd rfl (h _ (tget_mem e))
variable (succ : C → List (L × C))
def addB (p : List L) (T : List (C × List L)) (e : L × C) : List (C × List L) := if (tget T e.2).isSome = true then T else T ++ [(e.2, p ++ [e.1])]
def expB (T : List (C × List L)) (c : C) (p : List L) : List (C × List L) := (succ c).foldl (addB p) T
def runB : Nat → List (C × List L) → Nat → List (C × List L)
  | 0, T, _ => T
  | k + 1, T, i => match T[i]? with
    | none => T
    | some e => runB k (expB succ T e.1 e.2) (i + 1)
def seekB (g : C) : Nat → List (C × List L) → Nat → Option (List L)
  | 0, _, _ => none
  | k + 1, T, i => match T[i]? with
    | none => none
    | some e => if e.1 = g then some e.2 else seekB g k (expB succ T e.1 e.2) (i + 1)
inductive Path (c0 : C) : List L → C → Prop
  | nil : Path c0 [] c0
  | snoc {p : List L} {c d : C} {l : L} : Path c0 p c → (l, d) ∈ succ c → Path c0 (p ++ [l]) d
variable {succ}
theorem addB_pre (p : List L) (T : List (C × List L)) (e : L × C) : T <+: addB p T e := by
  unfold addB
  split
  · exact List.prefix_refl _
  · exact List.prefix_append _ _
theorem fold_pre (p : List L) : ∀ (es : List (L × C)) (T : List (C × List L)), T <+: es.foldl (addB p) T
  | [], T => List.prefix_refl _
  | e :: es, T => (addB_pre p T e).trans (fold_pre p es _)
theorem expB_pre (T : List (C × List L)) (c : C) (p : List L) : T <+: expB succ T c p := fold_pre p _ T
theorem runB_pre : ∀ (k : Nat) (T : List (C × List L)) (i : Nat), T <+: runB succ k T i
  | 0, T, i => List.prefix_refl _
  | k + 1, T, i => by
    unfold runB
    split
    · exact List.prefix_refl _
    · exact (expB_pre T _ _).trans (runB_pre k _ _)
theorem addB_nodup {p : List L} {T : List (C × List L)} {e : L × C} (n : (T.map (·.1)).Nodup) : ((addB p T e).map (·.1)).Nodup := by
  unfold addB
  split
  · exact n
  · rename_i h
    rw [List.map_append, List.nodup_append]
    refine ⟨n, by simp, fun a ha b hb => ?_⟩
    obtain ⟨x, hx, rfl⟩ := List.mem_map.mp ha
    simp at hb
    subst hb
    have : tget T e.2 = none := by
      cases z : tget T e.2 with
      | none => rfl
      | some q => rw [z] at h; simp at h
    exact tget_none this x hx
theorem fold_nodup {p : List L} : ∀ (es : List (L × C)) {T : List (C × List L)}, (T.map (·.1)).Nodup → ((es.foldl (addB p) T).map (·.1)).Nodup
  | [], _, n => n
  | e :: es, _, n => fold_nodup es (addB_nodup n)
theorem tget_pre {T U : List (C × List L)} {c : C} {p : List L} (h : T <+: U) (e : tget T c = some p) : tget U c = some p := by
  obtain ⟨V, rfl⟩ := h
  rw [tget_app, e]
  rfl
/-- the plan that is found is the one in the whole table -/
theorem seek_run (g : C) : ∀ (k : Nat) (T : List (C × List L)) (i : Nat), (T.map (·.1)).Nodup → (∀ j e, j < i → T[j]? = some e → e.1 ≠ g) → (runB succ k T i).length < k + i → i ≤ T.length → seekB succ g k T i = tget (runB succ k T i) g
  | 0, T, i, n, hb, hl, hi => by
    unfold runB at hl
    omega
  | k + 1, T, i, n, hb, hl, hi => by
    unfold seekB runB
    cases e : T[i]? with
    | none =>
      have hge : T.length ≤ i := List.getElem?_eq_none_iff.mp e
      simp only
      refine (tget_absent fun f hf => ?_).symm
      obtain ⟨j, hj⟩ := List.mem_iff_getElem?.mp hf
      exact hb j f (by have := (List.getElem?_eq_some_iff.mp hj).1; omega) hj
    | some f =>
      simp only
      by_cases c : f.1 = g
      · rw [if_pos c]
        refine (tget_pre ((expB_pre (succ := succ) T f.1 f.2).trans (runB_pre k _ _)) (tget_of n ?_)).symm
        have := List.mem_of_getElem? e
        rw [← c]; exact this
      · rw [if_neg c]
        unfold runB at hl
        rw [e] at hl
        simp only at hl
        have hil := (List.getElem?_eq_some_iff.mp e).1
        have hp := expB_pre (succ := succ) T f.1 f.2
        refine seek_run g k _ (i + 1) (fold_nodup _ n) (fun j e' hj he' => ?_) (by omega) (by have := hp.length_le; omega)
        obtain ⟨V, hV⟩ := hp
        have hj2 : j < T.length := by omega
        rw [← hV, List.getElem?_append_left hj2] at he'
        by_cases hji : j < i
        · exact hb j e' hji he'
        · have : j = i := by omega
          subst this
          rw [e] at he'
          cases he'
          exact c
/-! the table is right -/
variable (lt : L → L → Prop)
structure Mid (c0 : C) (T : List (C × List L)) : Prop where
  nodup : (T.map (·.1)).Nodup
  sound : ∀ e ∈ T, Path succ c0 e.2 e.1
  sorted : (T.map (·.2)).Pairwise (SL lt)
structure Bfs (c0 : C) (T : List (C × List L)) (i : Nat) : Prop where
  mid : Mid (succ := succ) lt c0 T
  head : (c0, []) ∈ T
  closed : ∀ j e, j < i → T[j]? = some e → ∀ x ∈ succ e.1, ∃ q, tget T x.2 = some q ∧ (q = e.2 ++ [x.1] ∨ SL lt q (e.2 ++ [x.1]))
  bound : ∀ e ∈ T, e.2 = [] ∨ ∃ q l, e.2 = q ++ [l] ∧ ∃ j f, j < i ∧ T[j]? = some f ∧ f.2 = q
variable {lt}
structure Exp (c0 : C) (p : List L) (T : List (C × List L)) (done : List (L × C)) : Prop where
  mid : Mid (succ := succ) lt c0 T
  bound : ∀ e ∈ T, e.2 = [] ∨ ∃ q l, e.2 = q ++ [l] ∧ (SL lt q p ∨ (q = p ∧ ∃ d, (l, d) ∈ done))
  closed : ∀ x ∈ done, ∃ q, tget T x.2 = some q ∧ (q = p ++ [x.1] ∨ SL lt q (p ++ [x.1]))
theorem Exp.below {c0 : C} {p : List L} {T : List (C × List L)} {done : List (L × C)} (h : Exp (succ := succ) (lt := lt) c0 p T done) {x : L × C} (hx : ∀ y ∈ done, lt y.1 x.1) : ∀ e ∈ T, SL lt e.2 (p ++ [x.1]) := by
  intro e he
  rcases h.bound e he with z | ⟨q, l, z, w | ⟨rfl, d, hd⟩⟩
  · rw [z]; exact SL.nil _ _
  · rw [z]; exact w.snoc _ _
  · rw [z]; exact SL.last (hx _ hd) _
theorem Exp.step {c0 : C} {p : List L} {T : List (C × List L)} {done : List (L × C)} {c : C} (hp : Path succ c0 p c) (h : Exp (succ := succ) (lt := lt) c0 p T done) {x : L × C} (hs : x ∈ succ c) (hx : ∀ y ∈ done, lt y.1 x.1) :
    Exp (succ := succ) (lt := lt) c0 p (addB p T x) (done ++ [x]) := by
  have bl := h.below hx
  unfold addB
  cases e : tget T x.2 with
  | some q =>
    simp only [Option.isSome_some, if_true]
    refine ⟨h.mid, fun f hf => ?_, fun y hy => ?_⟩
    · rcases h.bound f hf with z | ⟨q, l, z, w | ⟨w, d, hd⟩⟩
      · exact .inl z
      · exact .inr ⟨q, l, z, .inl w⟩
      · exact .inr ⟨q, l, z, .inr ⟨w, d, List.mem_append_left _ hd⟩⟩
    · rcases List.mem_append.mp hy with hy | hy
      · exact h.closed y hy
      · rw [List.mem_singleton.mp hy]
        exact ⟨q, e, .inr (bl _ (tget_mem e))⟩
  | none =>
    simp only [Option.isSome_none, Bool.false_eq_true, if_false]
    refine ⟨⟨?_, fun f hf => ?_, ?_⟩, fun f hf => ?_, fun y hy => ?_⟩
    · have := addB_nodup (p := p) (e := x) h.mid.nodup
      unfold addB at this
      rw [e] at this
      simpa using this
    · rcases List.mem_append.mp hf with hf | hf
      · exact h.mid.sound f hf
      · rw [List.mem_singleton.mp hf]; exact .snoc hp hs
    · rw [List.map_append, List.pairwise_append]
      refine ⟨h.mid.sorted, by simp, fun a ha b hb => ?_⟩
      obtain ⟨f, hf, rfl⟩ := List.mem_map.mp ha
      simp at hb
      subst hb
      exact bl f hf
    · rcases List.mem_append.mp hf with hf | hf
      · rcases h.bound f hf with z | ⟨q, l, z, w | ⟨w, d, hd⟩⟩
        · exact .inl z
        · exact .inr ⟨q, l, z, .inl w⟩
        · exact .inr ⟨q, l, z, .inr ⟨w, d, List.mem_append_left _ hd⟩⟩
      · rw [List.mem_singleton.mp hf]
        exact .inr ⟨p, x.1, rfl, .inr ⟨rfl, x.2, List.mem_append_right _ (List.mem_singleton.mpr rfl)⟩⟩
    · rcases List.mem_append.mp hy with hy | hy
      · obtain ⟨q, q1, q2⟩ := h.closed y hy
        exact ⟨q, tget_pre (List.prefix_append _ _) q1, q2⟩
      · rw [List.mem_singleton.mp hy]
        refine ⟨p ++ [x.1], ?_, .inl rfl⟩
        rw [tget_app, e, tget_cons, if_pos rfl]
        rfl
theorem Exp.all {c0 : C} {p : List L} {c : C} (hp : Path succ c0 p c) : ∀ (es done : List (L × C)) (T : List (C × List L)), (∀ x ∈ es, x ∈ succ c) → (done ++ es).Pairwise (fun a b => lt a.1 b.1) → Exp (succ := succ) (lt := lt) c0 p T done → Exp (succ := succ) (lt := lt) c0 p (es.foldl (addB p) T) (done ++ es)
  | [], done, T, _, _, h => by rw [List.append_nil]; exact h
  | x :: es, done, T, hs, hw, h => by
    have h2 := Exp.step hp h (hs x List.mem_cons_self) (fun y hy => (List.pairwise_append.mp hw).2.2 y hy x List.mem_cons_self)
    have := Exp.all hp es (done ++ [x]) (addB p T x) (fun y hy => hs y (List.mem_cons_of_mem _ hy)) (by rw [List.append_assoc]; exact hw) h2
    rw [List.append_assoc] at this
    exact this
theorem Bfs.next (ir : ∀ a, ¬ lt a a) {c0 : C} {T : List (C × List L)} {i : Nat} (hord : ∀ c, (succ c).Pairwise (fun a b => lt a.1 b.1)) (b : Bfs (succ := succ) lt c0 T i) {e : C × List L} (he : T[i]? = some e) : Bfs (succ := succ) lt c0 (expB succ T e.1 e.2) (i + 1) := by
  have hp := b.mid.sound e (List.mem_of_getElem? he)
  have hil := (List.getElem?_eq_some_iff.mp he).1
  have h0 : Exp (succ := succ) (lt := lt) c0 e.2 T [] := ⟨b.mid, fun f hf => by
    rcases b.bound f hf with z | ⟨q, l, z, j, g, hj, hg, hq⟩
    · exact .inl z
    · refine .inr ⟨q, l, z, .inl ?_⟩
      have h1 : (T.map (·.2))[j]? = some q := by rw [List.getElem?_map, hg]; exact congrArg some hq
      have h2 : (T.map (·.2))[i]? = some e.2 := by rw [List.getElem?_map, he]; rfl
      obtain ⟨a1, a2⟩ := List.getElem?_eq_some_iff.mp h1
      obtain ⟨b1, b2⟩ := List.getElem?_eq_some_iff.mp h2
      rw [← a2, ← b2]
      exact List.pairwise_iff_getElem.mp b.mid.sorted j i a1 b1 hj, fun _ h => absurd h (by simp)⟩
  have h1 := Exp.all hp (succ e.1) [] T (fun _ h => h) (by simpa using hord e.1) h0
  rw [List.nil_append] at h1
  have pre := expB_pre (succ := succ) T e.1 e.2
  have at' : ∀ j, j ≤ i → (expB succ T e.1 e.2)[j]? = T[j]? := fun j hj => by
    obtain ⟨V, hV⟩ := pre
    rw [← hV, List.getElem?_append_left (by omega)]
  refine ⟨h1.mid, pre.subset b.head, fun j f hj hf x hx => ?_, fun f hf => ?_⟩
  · rw [at' j (by omega)] at hf
    by_cases hji : j < i
    · obtain ⟨q, q1, q2⟩ := b.closed j f hji hf x hx
      exact ⟨q, tget_pre pre q1, q2⟩
    · have : j = i := by omega
      subst this
      rw [he] at hf
      cases hf
      exact h1.closed x hx
  · rcases h1.bound f hf with z | ⟨q, l, z, w | ⟨w, d, hd⟩⟩
    · exact .inl z
    · obtain ⟨V, hV⟩ : T <+: expB succ T e.1 e.2 := pre
      by_cases hfT : f ∈ T
      · rcases b.bound f hfT with z | ⟨q, l, z, j, g, hj, hg, hq⟩
        · exact .inl z
        · exact .inr ⟨q, l, z, j, g, by omega, by rw [at' j (by omega)]; exact hg, hq⟩
      · -- a new one has the plan of e ahead of its last
        exfalso
        have : ∀ (es : List (L × C)) (U : List (C × List L)), f ∈ es.foldl (addB e.2) U → f ∉ U → ∃ l, f.2 = e.2 ++ [l] := by
          intro es
          induction es with
          | nil => intro U h1 h2; exact absurd h1 h2
          | cons x es ih =>
            intro U h1 h2
            by_cases hU : f ∈ addB e.2 U x
            · unfold addB at hU
              split at hU
              · exact absurd hU h2
              · rcases List.mem_append.mp hU with h3 | h3
                · exact absurd h3 h2
                · rw [List.mem_singleton.mp h3]; exact ⟨_, rfl⟩
            · exact ih _ h1 hU
        obtain ⟨l', hl'⟩ := this _ _ hf hfT
        rw [hl'] at z
        obtain ⟨z1, z2⟩ := List.append_inj' z rfl
        rw [← z1] at w
        rcases w with w | w
        · omega
        · exact lexL_irr ir _ w.2
    · exact .inr ⟨q, l, z, i, e, by omega, by rw [at' i (Nat.le_refl _)]; exact he, w.symm⟩
theorem Bfs.run (ir : ∀ a, ¬ lt a a) {c0 : C} (hord : ∀ c, (succ c).Pairwise (fun a b => lt a.1 b.1)) (N : Nat) (hN : ∀ U, Mid (succ := succ) lt c0 U → U.length ≤ N) : ∀ (k : Nat) (T : List (C × List L)) (i : Nat), Bfs (succ := succ) lt c0 T i → N < k + i → i ≤ T.length → Bfs (succ := succ) lt c0 (runB succ k T i) (runB succ k T i).length
  | 0, T, i, b, h, hi => by
    have := hN T b.mid
    omega
  | k + 1, T, i, b, h, hi => by
    unfold runB
    cases e : T[i]? with
    | none =>
      have hge : T.length ≤ i := List.getElem?_eq_none_iff.mp e
      have : i = T.length := by omega
      simp only
      rw [← this]; exact b
    | some f =>
      simp only
      have hil := (List.getElem?_eq_some_iff.mp e).1
      have hp := (expB_pre (succ := succ) T f.1 f.2).length_le
      exact Bfs.run ir hord N hN k _ (i + 1) (b.next ir hord e) (by omega) (by omega)
theorem Bfs.first (c0 : C) : Bfs (succ := succ) lt c0 [(c0, [])] 0 :=
  ⟨⟨by simp, fun e he => by rw [List.mem_singleton.mp he]; exact .nil, by simp⟩, List.mem_singleton.mpr rfl, fun j e hj => absurd hj (Nat.not_lt_zero j), fun e he => by rw [List.mem_singleton.mp he]; exact .inl rfl⟩
theorem Bfs.best {c0 : C} {T : List (C × List L)} {i : Nat} (tr : ∀ a b c, lt a b → lt b c → lt a c) (b : Bfs (succ := succ) lt c0 T i) (hi : T.length ≤ i) {p : List L} {c : C} (hp : Path succ c0 p c) : ∃ q, tget T c = some q ∧ (q = p ∨ SL lt q p) := by
  induction hp with
  | nil => exact ⟨[], tget_of b.mid.nodup b.head, .inl rfl⟩
  | @snoc p c d l hp hs ih =>
    obtain ⟨q0, h1, h2⟩ := ih
    obtain ⟨j, hj⟩ := List.mem_iff_getElem?.mp (tget_mem h1)
    obtain ⟨q, q1, q2⟩ := b.closed j _ (by have := (List.getElem?_eq_some_iff.mp hj).1; omega) hj (l, d) hs
    refine ⟨q, q1, ?_⟩
    simp only at q2
    rcases h2 with rfl | h2
    · exact q2
    · rcases q2 with rfl | q2
      · exact .inr (h2.snoc _ _)
      · exact .inr (q2.trans tr (h2.snoc _ _))
/-- the whole table -/
structure Tab (lt : L → L → Prop) (c0 : C) (T : List (C × List L)) : Prop where
  nodup : (T.map (·.1)).Nodup
  sound : ∀ c q, tget T c = some q → Path succ c0 q c
  best : ∀ p c, Path succ c0 p c → ∃ q, tget T c = some q ∧ (q = p ∨ SL lt q p)
theorem tab_ok (ir : ∀ a, ¬ lt a a) (tr : ∀ a b c, lt a b → lt b c → lt a c) {c0 : C} (hord : ∀ c, (succ c).Pairwise (fun a b => lt a.1 b.1)) (N k : Nat) (hN : ∀ U, Mid (succ := succ) lt c0 U → U.length ≤ N) (hk : N < k) : Tab (succ := succ) lt c0 (runB succ k [(c0, [])] 0) ∧ (runB succ k [(c0, [])] 0).length ≤ N := by
  have b := Bfs.run ir hord N hN k _ 0 (Bfs.first c0) (by omega) (by simp)
  exact ⟨⟨b.mid.nodup, fun c q h => b.mid.sound _ (tget_mem h), fun p c h => b.best tr (Nat.le_refl _) h⟩, hN _ b.mid⟩
end
/-! ### the moves within registers -/
def okM (us : List (List Int)) (r : Nat) (c : List Int) (m : Nat) : Bool := canM us c m && decide ((movM c m).length ≤ r)
def succM (us : List (List Int)) (r : Nat) (c : List Int) : List (Int × List Int) := ((List.range us.length).filter (okM us r c)).map fun m : Nat => ((m : Int), movM c m)
theorem succM_mem {us : List (List Int)} {r : Nat} {c d : List Int} {l : Int} : (l, d) ∈ succM us r c ↔ (0 ≤ l ∧ l < us.length ∧ canM us c l = true ∧ (movM c l).length ≤ r) ∧ d = movM c l := by
  unfold succM okM
  rw [List.mem_map]
  constructor
  · rintro ⟨m, hm, e⟩
    cases e
    have := List.mem_filter.mp hm
    have h1 := List.mem_range.mp this.1
    have h2 := this.2
    simp at h2
    exact ⟨⟨by omega, by omega, h2.1, h2.2⟩, rfl⟩
  · rintro ⟨⟨h1, h2, h3, h4⟩, rfl⟩
    have e : ((l.toNat : Nat) : Int) = l := by omega
    refine ⟨l.toNat, List.mem_filter.mpr ⟨List.mem_range.mpr (by omega), ?_⟩, by rw [e]⟩
    rw [e, h3, decide_eq_true h4]; rfl
theorem succM_ord (us : List (List Int)) (r : Nat) (c : List Int) : (succM us r c).Pairwise (fun a b => a.1 < b.1) := by
  unfold succM
  rw [List.pairwise_map]
  refine List.Pairwise.filter _ (List.Pairwise.imp (fun h => ?_) List.pairwise_lt_range)
  simp only
  omega
/-- a plan within registers -/
def okR (us : List (List Int)) (r : Nat) : List Int → List Int → Prop
  | _, [] => True
  | h, s :: t => (0 ≤ s ∧ s < us.length ∧ canM us h s = true ∧ (movM h s).length ≤ r) ∧ okR us r (movM h s) t
theorem okR_snoc {us : List (List Int)} {r : Nat} {s : Int} : ∀ {p h : List Int}, okR us r h (p ++ [s]) ↔ okR us r h p ∧ (0 ≤ s ∧ s < us.length ∧ canM us (endM h p) s = true ∧ (movM (endM h p) s).length ≤ r)
  | [], h => by
    show (_ ∧ True) ↔ (True ∧ _)
    simp only [and_true, true_and]
    exact Iff.rfl
  | x :: p, h => by
    show (_ ∧ okR us r (movM h x) (p ++ [s])) ↔ ((_ ∧ okR us r (movM h x) p) ∧ _)
    rw [okR_snoc]
    exact and_assoc.symm
theorem okR_good {us : List (List Int)} {r : Nat} : ∀ {p h : List Int}, okR us r h p → goodM us h p
  | [], _, _ => trivial
  | _ :: _, _, k => ⟨⟨k.1.1, k.1.2.1, k.1.2.2.1⟩, okR_good k.2⟩
theorem snoc_ind {P : List Int → Prop} (h0 : P []) (hs : ∀ p s, P p → P (p ++ [s])) : ∀ p, P p := fun p => by
  have : ∀ n (p : List Int), p.length = n → P p := by
    intro n
    induction n with
    | zero => intro p hp; rw [List.eq_nil_of_length_eq_zero hp]; exact h0
    | succ n ih =>
      intro p hp
      rcases List.eq_nil_or_concat p with rfl | ⟨q, s, rfl⟩
      · simp at hp
      · rw [List.concat_eq_append] at hp ⊢
        exact hs q s (ih q (by simpa using hp))
  exact this p.length p rfl
theorem path_iff {us : List (List Int)} {r : Nat} {h0 : List Int} {p c : List Int} : Path (succM us r) h0 p c ↔ okR us r h0 p ∧ endM h0 p = c := by
  constructor
  · intro hp
    induction hp with
    | nil => exact ⟨trivial, rfl⟩
    | snoc hp hs ih =>
      obtain ⟨h1, h2⟩ := succM_mem.mp hs
      rw [okR_snoc, end_snoc, ih.2]
      exact ⟨⟨ih.1, h1⟩, h2.symm⟩
  · rintro ⟨h1, rfl⟩
    induction p using snoc_ind with
    | h0 => exact .nil
    | hs p s ih =>
      rw [okR_snoc] at h1
      rw [end_snoc]
      exact .snoc (ih h1.1) (succM_mem.mpr ⟨h1.2, rfl⟩)
/-! how many configurations there are -/
def Cf (n : Nat) (c : List Int) : Prop := Up c ∧ ∀ x ∈ c, 0 ≤ x ∧ x < n
theorem Cf.mov {n : Nat} {c : List Int} (h : Cf n c) {s : Int} (h0 : 0 ≤ s) (h1 : s < n) : Cf n (movM c s) := by
  refine ⟨movM_up h.1 s, fun x hx => ?_⟩
  rw [mem_movM] at hx
  split at hx
  · exact h.2 x hx.1
  · rcases hx with hx | rfl
    · exact h.2 x hx
    · exact ⟨h0, h1⟩
theorem Cf.path {us : List (List Int)} {r : Nat} {h0 p c : List Int} (h : Cf us.length h0) (hp : Path (succM us r) h0 p c) : Cf us.length c := by
  induction hp with
  | nil => exact h
  | snoc _ hs ih =>
    obtain ⟨h1, rfl⟩ := succM_mem.mp hs
    exact ih.mov h1.1 h1.2.1
theorem cf_last {n : Nat} {c : List Int} (h : Cf (n + 1) c) : ((n : Int) ∉ c ∧ Cf n c) ∨ ∃ d, c = d ++ [(n : Int)] ∧ Cf n d := by
  by_cases hn : (n : Int) ∈ c
  · right
    rcases List.eq_nil_or_concat c with rfl | ⟨d, x, rfl⟩
    · simp at hn
    · rw [List.concat_eq_append] at h hn ⊢
      have hp := List.pairwise_append.mp h.1
      have hx := h.2 x (by simp)
      have e : x = (n : Int) := by
        rcases List.mem_append.mp hn with z | z
        · have := hp.2.2 _ z x (by simp); omega
        · exact (List.mem_singleton.mp z).symm
      subst e
      refine ⟨d, rfl, hp.1, fun y hy => ?_⟩
      have := hp.2.2 y hy (n : Int) (by simp)
      have := h.2 y (List.mem_append_left _ hy)
      omega
  · left
    refine ⟨hn, h.1, fun x hx => ?_⟩
    have := h.2 x hx
    have : x ≠ (n : Int) := fun z => hn (z ▸ hx)
    omega
theorem filter_two {α : Type} (p : α → Bool) : ∀ l : List α, l.length = (l.filter p).length + (l.filter fun x => !p x).length
  | [] => rfl
  | x :: l => by
    have := filter_two p l
    by_cases h : p x = true
    · simp [List.filter_cons, h]; omega
    · simp at h; simp [List.filter_cons, h]; omega
theorem cf_count : ∀ (n : Nat) (l : List (List Int)), l.Nodup → (∀ c ∈ l, Cf n c) → l.length ≤ 2 ^ n
  | 0, l, nd, h => by
    have : ∀ c ∈ l, c = [] := fun c hc => by
      cases c with
      | nil => rfl
      | cons x c => have := (h _ hc).2 x List.mem_cons_self; omega
    cases l with
    | nil => simp
    | cons a l =>
      cases l with
      | nil => simp
      | cons b l =>
        have h1 := this a (by simp)
        have h2 := this b (by simp)
        rw [h1, h2] at nd
        simp at nd
  | n + 1, l, nd, h => by
    have e := filter_two (fun c : List Int => decide ((n : Int) ∈ c)) l
    have h1 : (l.filter fun c => !decide ((n : Int) ∈ c)).length ≤ 2 ^ n := by
      refine cf_count n _ (nd.filter _) fun c hc => ?_
      have := List.mem_filter.mp hc
      rcases cf_last (h c this.1) with z | ⟨d, z, _⟩
      · exact z.2
      · have h2 := this.2
        rw [z] at h2
        simp at h2
    have h2 : (l.filter fun c => decide ((n : Int) ∈ c)).length ≤ 2 ^ n := by
      have := cf_count n ((l.filter fun c => decide ((n : Int) ∈ c)).map List.dropLast) ?_ ?_
      · simpa using this
      · have nd2 := nd.filter (fun c : List Int => decide ((n : Int) ∈ c))
        unfold List.Nodup
        rw [List.pairwise_map]
        refine List.Pairwise.imp_of_mem (fun {a b} ha hb hab e => hab ?_) nd2
        have ma := List.mem_filter.mp ha
        have mb := List.mem_filter.mp hb
        simp at ma mb
        rcases cf_last (h a ma.1) with z | ⟨d, rfl, _⟩
        · exact absurd ma.2 z.1
        · rcases cf_last (h b mb.1) with z | ⟨d', rfl, _⟩
          · exact absurd mb.2 z.1
          · simp at e
            rw [e]
      · intro c hc
        obtain ⟨a, ha, rfl⟩ := List.mem_map.mp hc
        have ma := List.mem_filter.mp ha
        simp at ma
        rcases cf_last (h a ma.1) with z | ⟨d, rfl, hd⟩
        · exact absurd ma.2 z.1
        · simpa using hd
    rw [e, Nat.pow_succ]
    omega
/-- the table of a start -/
def tabM (us : List (List Int)) (r : Nat) (h0 : List Int) : List (List Int × List Int) := runB (succM us r) 300 [(h0, [])] 0
theorem tabM_ok {us : List (List Int)} {r : Nat} {h0 : List Int} (hu : us.length ≤ 8) (hc : Cf us.length h0) : Tab (succ := succM us r) (· < ·) h0 (tabM us r h0) ∧ (tabM us r h0).length ≤ 256 := by
  refine tab_ok (lt := fun a b : Int => a < b) (fun a => by omega) (fun a b c => by omega) (fun c => succM_ord us r c) 256 300 (fun U m => ?_) (by omega)
  have h1 := cf_count us.length (U.map (·.1)) m.nodup fun c hc' => by
    obtain ⟨e, he, rfl⟩ := List.mem_map.mp hc'
    exact hc.path (m.sound e he)
  rw [List.length_map] at h1
  have : 2 ^ us.length ≤ 2 ^ 8 := Nat.pow_le_pow_right (by omega) hu
  omega
/-- what the search for a goal finds -/
def planM (us : List (List Int)) (r : Nat) (h0 g : List Int) : Option (List Int) := tget (tabM us r h0) g
theorem planM_seek {us : List (List Int)} {r : Nat} {h0 : List Int} (g : List Int) (hu : us.length ≤ 8) (hc : Cf us.length h0) : seekB (succM us r) g 300 [(h0, [])] 0 = planM us r h0 g := by
  have := (tabM_ok (r := r) hu hc).2
  exact seek_run g 300 _ 0 (by simp) (fun j e hj => absurd hj (Nat.not_lt_zero j)) (by unfold tabM at this; omega) (by simp)
theorem planM_sound {us : List (List Int)} {r : Nat} {h0 g q : List Int} (hu : us.length ≤ 8) (hc : Cf us.length h0) (h : planM us r h0 g = some q) : okR us r h0 q ∧ endM h0 q = g := path_iff.mp ((tabM_ok hu hc).1.sound _ _ h)
theorem planM_best {us : List (List Int)} {r : Nat} {h0 p : List Int} (hu : us.length ≤ 8) (hc : Cf us.length h0) (h : okR us r h0 p) : ∃ q, planM us r h0 (endM h0 p) = some q ∧ (q = p ∨ SL (· < ·) q p) := (tabM_ok hu hc).1.best _ _ (path_iff.mpr ⟨h, rfl⟩)
/-! ### the price of a plan; price, then length, then from the left -/
def wM (ws : List Int) (m : Int) : Int := ws.getD m.toNat 0
def costM (ws p : List Int) : Int := (p.map (wM ws)).sum
def KL (ws p q : List Int) : Prop := costM ws p < costM ws q ∨ (costM ws p = costM ws q ∧ SL (· < ·) p q)
theorem cost_nil (ws : List Int) : costM ws [] = 0 := rfl
theorem cost_app (ws p q : List Int) : costM ws (p ++ q) = costM ws p + costM ws q := by
  unfold costM
  rw [List.map_append, List.sum_append]
theorem cost_snoc (ws p : List Int) (x : Int) : costM ws (p ++ [x]) = costM ws p + wM ws x := by
  rw [cost_app]
  show costM ws p + (wM ws x + 0) = _
  omega
theorem SL.tr {p q r : List Int} (h : SL (· < ·) p q) (k : SL (· < ·) q r) : SL (· < ·) p r := SL.trans (fun a b c => by omega) h k
theorem KL.trans {ws p q r : List Int} (h : KL ws p q) (k : KL ws q r) : KL ws p r := by
  rcases h with h | ⟨h1, h2⟩
  · rcases k with k | ⟨k1, k2⟩
    · exact .inl (by omega)
    · exact .inl (by omega)
  · rcases k with k | ⟨k1, k2⟩
    · exact .inl (by omega)
    · exact .inr ⟨by omega, h2.tr k2⟩
theorem KL.irr {ws p : List Int} (h : KL ws p p) : False := by
  rcases h with h | ⟨_, h⟩
  · omega
  · exact SL.irr (fun a => by omega) p h
theorem KL.snoc {ws p q : List Int} (h : KL ws p q) (x : Int) : KL ws (p ++ [x]) (q ++ [x]) := by
  rcases h with h | ⟨h1, h2⟩
  · exact .inl (by rw [cost_snoc, cost_snoc]; omega)
  · exact .inr ⟨by rw [cost_snoc, cost_snoc]; omega, h2.snoc _ _⟩
theorem KL.more {ws : List Int} (p : List Int) {x : Int} (h : 0 < wM ws x) : KL ws p (p ++ [x]) := .inl (by rw [cost_snoc]; omega)
theorem lex_tri : ∀ {p q : List Int}, p.length = q.length → p = q ∨ lexL (· < ·) p q ∨ lexL (· < ·) q p
  | [], [], _ => .inl rfl
  | [], _ :: _, h => by cases h
  | _ :: _, [], h => by cases h
  | x :: xs, y :: ys, h => by
    rcases Int.lt_trichotomy x y with z | z | z
    · exact .inr (.inl (.inl z))
    · subst z
      rcases lex_tri (p := xs) (q := ys) (by simpa using h) with k | k | k
      · exact .inl (by rw [k])
      · exact .inr (.inl (.inr ⟨rfl, k⟩))
      · exact .inr (.inr (.inr ⟨rfl, k⟩))
    · exact .inr (.inr (.inl z))
theorem SL_tri (p q : List Int) : p = q ∨ SL (· < ·) p q ∨ SL (· < ·) q p := by
  rcases Nat.lt_trichotomy p.length q.length with h | h | h
  · exact .inr (.inl (.inl h))
  · rcases lex_tri h with k | k | k
    · exact .inl k
    · exact .inr (.inl (.inr ⟨h, k⟩))
    · exact .inr (.inr (.inr ⟨h.symm, k⟩))
  · exact .inr (.inr (.inl h))
theorem KL_tri (ws p q : List Int) : p = q ∨ KL ws p q ∨ KL ws q p := by
  rcases Int.lt_trichotomy (costM ws p) (costM ws q) with h | h | h
  · exact .inr (.inl (.inl h))
  · rcases SL_tri p q with k | k | k
    · exact .inl k
    · exact .inr (.inl (.inr ⟨h, k⟩))
    · exact .inr (.inr (.inr ⟨h.symm, k⟩))
  · exact .inr (.inr (.inl h))
theorem KL.asym {ws p q : List Int} (h : KL ws p q) (k : KL ws q p) : False := (h.trans k).irr
/-! as data -/
section
open PySem.W PySem.SeqAt
theorem itm_ne {a b : Int} (h : a ≠ b) : (Sum.inl a : Int ⊕ List Nat) ≠ .inl b := fun z => h (Sum.inl.inj z)
theorem itm_lt {a b : Int} (h : a < b) : itemOrd.blt (.inl a) (.inl b) = true := decide_eq_true h
theorem toks_lex : ∀ {p q : List Int}, p.length = q.length → lexL (· < ·) p q → ∀ l m, PyProof.Rows.lexLt itemOrd (keyToksAll (p.map .int) ++ l) (keyToksAll (q.map .int) ++ m) = true
  | [], _, _, h, _, _ => by cases h
  | _ :: _, [], _, h, _, _ => by cases h
  | x :: xs, y :: ys, e, h, l, m => by
    show PyProof.Rows.lexLt itemOrd (Sum.inl 1 :: Sum.inl x :: (keyToksAll (xs.map .int) ++ l)) (Sum.inl 1 :: Sum.inl y :: (keyToksAll (ys.map .int) ++ m)) = true
    rw [lex_self (O := itemOrd)]
    rcases h with h | ⟨rfl, h⟩
    · rw [lex_diff (O := itemOrd) (itm_ne (by omega))]
      exact itm_lt h
    · rw [lex_self (O := itemOrd)]
      exact toks_lex (by simpa using e) h l m
def encI (ws : List Int) (x : List Int × List Int) : PyData := .tuple [.int (costM ws x.1), .int (x.1.length : Int), tupD x.1, tupD x.2]
theorem encI_toks (ws : List Int) (x : List Int × List Int) : keyToks (encI ws x) = Sum.inl 1 :: Sum.inl (costM ws x.1) :: Sum.inl 1 :: Sum.inl (x.1.length : Int) :: Sum.inl 1 :: (keyToksAll (x.1.map .int) ++ (Sum.inl 1 :: (keyToksAll (x.2.map .int) ++ [Sum.inl 0]))) := rfl
theorem encI_lt {ws : List Int} {x y : List Int × List Int} (h : KL ws x.1 y.1) : dataLt (encI ws x) (encI ws y) = true := by
  unfold dataLt
  rw [encI_toks, encI_toks, lex_self (O := itemOrd)]
  rcases h with h | ⟨e, h⟩
  · rw [lex_diff (O := itemOrd) (itm_ne (by omega))]
    exact itm_lt h
  · rw [e, lex_self (O := itemOrd), lex_self (O := itemOrd)]
    rcases h with h | ⟨e2, h⟩
    · rw [lex_diff (O := itemOrd) (itm_ne (by omega))]
      exact itm_lt (by omega)
    · rw [e2, lex_self (O := itemOrd), lex_self (O := itemOrd)]
      exact toks_lex e2 h _ _
theorem data_ord : HOrd dataLt := by
  refine ⟨fun x y h => ?_, fun x y z h1 h2 => ?_⟩
  · cases e : dataLt y x with
    | false => rfl
    | true =>
      have := lex_trans (O := itemOrd) _ _ _ h e
      have i := lex_irrefl (O := itemOrd) (keyToks x)
      rw [this] at i; cases i
  · cases e : dataLt x z with
    | false => rfl
    | true =>
      rcases lex_negTrans (O := itemOrd) (keyToks x) (keyToks y) (keyToks z) e with k | k
      · exact absurd (k.symm.trans h1) (by decide)
      · exact absurd (k.symm.trans h2) (by decide)
theorem alike_ints : ∀ p q : List Int, alikeAll (p.map .int) (q.map .int) = true
  | [], _ => by rw [List.map_nil, alikeAll]
  | _ :: _, [] => by rw [List.map_nil, List.map_cons, alikeAll]
  | x :: p, y :: q => by rw [List.map_cons, List.map_cons, alikeAll, alike_ints p q]; rfl
theorem encI_alike (ws : List Int) (x y : List Int × List Int) : alike (encI ws x) (encI ws y) = true := by
  have h1 := alike_ints x.1 y.1
  have h2 := alike_ints x.2 y.2
  show alikeAll [_, _, _, _] [_, _, _, _] = true
  rw [alikeAll, alikeAll, alikeAll, alikeAll, alikeAll]
  show (true && (true && (alikeAll (x.1.map .int) (y.1.map .int) && (alikeAll (x.2.map .int) (y.2.map .int) && true)))) = true
  rw [h1, h2]
  rfl
theorem depth_ints : ∀ p : List Int, PyData.depthAll (p.map .int) = 0
  | [] => by rw [List.map_nil, PyData.depthAll]
  | x :: p => by rw [List.map_cons, PyData.depthAll, depth_ints p, PyData.depth]; rfl
theorem encI_ok (ws : List Int) (x : List Int × List Int) : hqOk (encI ws x) = true := by
  unfold hqOk encI tupD
  simp [PyData.depth, PyData.depthAll, depth_ints]
theorem encI_all (ws : List Int) (xs : List (List Int × List Int)) : alkAll (xs.map (encI ws)) = true := by
  unfold alkAll
  rw [Bool.and_eq_true, List.all_eq_true, List.all_eq_true]
  refine ⟨fun a ha => ?_, fun a ha => ?_⟩
  · rw [List.all_eq_true]
    intro b hb
    obtain ⟨x, _, rfl⟩ := List.mem_map.mp ha
    obtain ⟨y, _, rfl⟩ := List.mem_map.mp hb
    exact encI_alike ws x y
  · obtain ⟨x, _, rfl⟩ := List.mem_map.mp ha
    exact encI_ok ws x
theorem ints_enc {p q : List Int} (h : p.map PyData.int = q.map PyData.int) : p = q := List.map_inj_right (fun a b z => PyData.int.inj z) |>.mp h
theorem encI_inj {ws : List Int} {x y : List Int × List Int} (h : encI ws x = encI ws y) : x = y := by
  obtain ⟨p, c⟩ := x
  obtain ⟨q, d⟩ := y
  have h := PyData.tuple.inj h
  injection h with _ h
  injection h with _ h
  injection h with h1 h
  injection h with h2 _
  have e1 : p = q := ints_enc (PyData.tuple.inj h1)
  have e2 : c = d := ints_enc (PyData.tuple.inj h2)
  rw [e1, e2]
/-- what has the same members as a coded list is a coded list -/
theorem perm_enc {ws : List Int} {ds : List PyData} {xs : List (List Int × List Int)} (h : ds.Perm (xs.map (encI ws))) : ∃ ys : List (List Int × List Int), ds = ys.map (encI ws) ∧ ys.Perm xs := by
  induction ds generalizing xs with
  | nil =>
    have := h.length_eq
    rw [List.length_map] at this
    rw [List.eq_nil_of_length_eq_zero this.symm]
    exact ⟨[], rfl, List.Perm.refl _⟩
  | cons d ds ih =>
    obtain ⟨x, hx, rfl⟩ := List.mem_map.mp (h.mem_iff.mp List.mem_cons_self)
    obtain ⟨a, b, rfl⟩ := List.append_of_mem hx
    have h2 : (encI ws x :: ds).Perm (encI ws x :: (a ++ b).map (encI ws)) := by
      refine h.trans ?_
      rw [List.map_append, List.map_cons, List.map_append]
      exact List.perm_middle
    obtain ⟨ys, rfl, p⟩ := ih (List.Perm.cons_inv h2)
    exact ⟨x :: ys, rfl, (p.cons x).trans List.perm_middle.symm⟩
end
/-! ### the cheapest row of moves to each configuration -/
section
variable {C : Type} [DecidableEq C] (succ : C → List (Int × C)) (ws : List Int)
structure BestW (c0 : C) (c : C) (p : List Int) : Prop where
  path : Path succ c0 p c
  least : ∀ q, Path succ c0 q c → q = p ∨ KL ws p q
structure Dj (c0 : C) (T : List (C × List Int)) (Q : List (List Int × C)) : Prop where
  nodup : (T.map (·.1)).Nodup
  best : ∀ e ∈ T, BestW succ ws c0 e.1 e.2
  path : ∀ x ∈ Q, Path succ c0 x.1 x.2
  start : (tget T c0).isSome = true ∨ ([], c0) ∈ Q
  closed : ∀ e ∈ T, ∀ x ∈ succ e.1, (tget T x.2).isSome = true ∨ (e.2 ++ [x.1], x.2) ∈ Q
  len : ∀ (i : Nat) e, T[i]? = some e → e.2.length ≤ i
  qlen : ∀ x ∈ Q, x.1.length ≤ T.length
variable {succ ws}
theorem BestW.uniq {c0 c : C} {p q : List Int} (h : BestW succ ws c0 c p) (k : BestW succ ws c0 c q) : p = q := by
  rcases h.least q k.path with z | z
  · exact z.symm
  · rcases k.least p h.path with y | y
    · exact y
    · exact (z.asym y).elim
theorem Dj.front {c0 : C} {T : List (C × List Int)} {Q : List (List Int × C)} (hw : ∀ c x, x ∈ succ c → 0 < wM ws x.1) (d : Dj succ ws c0 T Q) {q : List Int} {c : C} (h : Path succ c0 q c) : (tget T c).isSome = true ∨ ∃ y ∈ Q, y.1 = q ∨ KL ws y.1 q := by
  induction h with
  | nil => exact d.start.imp id fun h => ⟨_, h, .inl rfl⟩
  | @snoc q c e l hp hs ih =>
    rcases ih with ih | ⟨y, hy, hq⟩
    · cases z : tget T c with
      | none => rw [z] at ih; cases ih
      | some p =>
        have hm := tget_mem z
        rcases d.closed _ hm (l, e) hs with k | k
        · exact .inl k
        · refine .inr ⟨_, k, ?_⟩
          rcases (d.best _ hm).least q hp with r | r
          · exact .inl (by rw [r])
          · exact .inr (r.snoc l)
    · refine .inr ⟨y, hy, .inr ?_⟩
      have m := KL.more q (hw _ _ hs)
      rcases hq with rfl | hq
      · exact m
      · exact hq.trans m
theorem Dj.done {c0 : C} {T : List (C × List Int)} (hw : ∀ c x, x ∈ succ c → 0 < wM ws x.1) (d : Dj succ ws c0 T []) {q : List Int} {c : C} (h : Path succ c0 q c) : (tget T c).isSome = true := by
  rcases d.front hw h with z | ⟨y, hy, _⟩
  · exact z
  · cases hy
theorem Dj.skip {c0 : C} {T : List (C × List Int)} {Q Q' : List (List Int × C)} {x : List Int × C} (d : Dj succ ws c0 T Q) (hp : Q.Perm (x :: Q')) (hx : (tget T x.2).isSome = true) : Dj succ ws c0 T Q' := by
  have sub : ∀ y ∈ Q, y = x ∨ y ∈ Q' := fun y hy => List.mem_cons.mp (hp.mem_iff.mp hy)
  refine ⟨d.nodup, d.best, fun y hy => d.path y (hp.mem_iff.mpr (List.mem_cons_of_mem _ hy)), ?_, fun e he y hy => ?_, d.len, fun y hy => d.qlen y (hp.mem_iff.mpr (List.mem_cons_of_mem _ hy))⟩
  · rcases d.start with h | h
    · exact .inl h
    · rcases sub _ h with rfl | h
      · exact .inl hx
      · exact .inr h
  · rcases d.closed e he y hy with h | h
    · exact .inl h
    · rcases sub _ h with h | h
      · left
        rw [← h] at hx
        exact hx
      · exact .inr h
theorem tget_some_app {V : Type} {T : List (C × List V)} {e : C × List V} {c : C} (h : (tget T c).isSome = true) : (tget (T ++ [e]) c).isSome = true := by
  rw [tget_app]
  cases z : tget T c with
  | none => rw [z] at h; cases h
  | some p => rfl
/-- what is put in when a configuration is settled -/
def pushes (T : List (C × List Int)) (p : List Int) (es : List (Int × C)) : List (List Int × C) := (es.filter fun e => !(tget T e.2).isSome).map fun e => (p ++ [e.1], e.2)
theorem Dj.add {c0 : C} {T : List (C × List Int)} {Q Q' : List (List Int × C)} {x : List Int × C} (hw : ∀ c x, x ∈ succ c → 0 < wM ws x.1) (d : Dj succ ws c0 T Q) (hp : Q.Perm (x :: Q')) (hx : tget T x.2 = none) (hmin : ∀ y ∈ Q, ¬ KL ws y.1 x.1) {Q2 : List (List Int × C)} (hQ : Q2.Perm (pushes (T ++ [(x.2, x.1)]) x.1 (succ x.2) ++ Q')) :
    Dj succ ws c0 (T ++ [(x.2, x.1)]) Q2 := by
  have mx : x ∈ Q := hp.mem_iff.mpr List.mem_cons_self
  have sub : ∀ y ∈ Q, y = x ∨ y ∈ Q' := fun y hy => List.mem_cons.mp (hp.mem_iff.mp hy)
  have in2 : ∀ y ∈ Q', y ∈ Q2 := fun y hy => hQ.mem_iff.mpr (List.mem_append_right _ hy)
  have self : (tget (T ++ [(x.2, x.1)]) x.2).isSome = true := by rw [tget_app, hx, tget_cons, if_pos rfl]; rfl
  have bx : BestW succ ws c0 x.2 x.1 := by
    refine ⟨d.path x mx, fun q hq => ?_⟩
    rcases d.front hw hq with z | ⟨y, hy, z⟩
    · rw [hx] at z; cases z
    · have h1 := hmin y hy
      have : x.1 = y.1 ∨ KL ws x.1 y.1 := by
        rcases KL_tri ws x.1 y.1 with h | h | h
        · exact .inl h
        · exact .inr h
        · exact absurd h h1
      rcases this with h | h
      · rw [h]
        rcases z with z | z
        · exact .inl z.symm
        · exact .inr z
      · rcases z with z | z
        · exact .inr (by rw [← z]; exact h)
        · exact .inr (h.trans z)
  refine ⟨?_, fun e he => ?_, fun y hy => ?_, ?_, fun e he y hy => ?_, fun i e hi => ?_, fun y hy => ?_⟩
  · rw [List.map_append, List.nodup_append]
    refine ⟨d.nodup, by simp, fun a ha b hb => ?_⟩
    obtain ⟨f, hf, rfl⟩ := List.mem_map.mp ha
    simp at hb
    subst hb
    exact tget_none hx f hf
  · rcases List.mem_append.mp he with he | he
    · exact d.best e he
    · rw [List.mem_singleton.mp he]; exact bx
  · rcases List.mem_append.mp (hQ.mem_iff.mp hy) with hy | hy
    · unfold pushes at hy
      obtain ⟨e, he, rfl⟩ := List.mem_map.mp hy
      exact .snoc (d.path x mx) (List.mem_filter.mp he).1
    · exact d.path y (hp.mem_iff.mpr (List.mem_cons_of_mem _ hy))
  · rcases d.start with h | h
    · exact .inl (tget_some_app h)
    · rcases sub _ h with h | h
      · left
        rw [← h] at self ⊢
        exact self
      · exact .inr (in2 _ h)
  · rcases List.mem_append.mp he with he | he
    · rcases d.closed e he y hy with h | h
      · exact .inl (tget_some_app h)
      · rcases sub _ h with h | h
        · left
          have : y.2 = x.2 := by rw [← h]
          rw [this]; exact self
        · exact .inr (in2 _ h)
    · rw [List.mem_singleton.mp he] at hy ⊢
      cases z : (tget (T ++ [(x.2, x.1)]) y.2).isSome with
      | true => exact .inl rfl
      | false =>
        refine .inr (hQ.mem_iff.mpr (List.mem_append_left _ (List.mem_map.mpr ⟨y, List.mem_filter.mpr ⟨hy, ?_⟩, rfl⟩)))
        rw [z]; rfl
  · by_cases c : i < T.length
    · rw [List.getElem?_append_left c] at hi
      exact d.len i e hi
    · rw [List.getElem?_append_right (by omega)] at hi
      obtain ⟨h1, h2⟩ := List.getElem?_eq_some_iff.mp hi
      simp at h1
      have : i = T.length := by omega
      subst this
      simp at h2
      rw [← h2]
      exact d.qlen x mx
  · rw [List.length_append, List.length_singleton]
    rcases List.mem_append.mp (hQ.mem_iff.mp hy) with hy | hy
    · unfold pushes at hy
      obtain ⟨e, he, rfl⟩ := List.mem_map.mp hy
      have := d.qlen x mx
      simp
      exact this
    · have := d.qlen y (hp.mem_iff.mpr (List.mem_cons_of_mem _ hy))
      omega
theorem Dj.first (c0 : C) : Dj succ ws c0 [] [([], c0)] :=
  ⟨List.nodup_nil, fun e he => (by cases he), fun x hx => (by rw [List.mem_singleton.mp hx]; exact .nil), .inr (List.mem_singleton.mpr rfl), fun e he => (by cases he), fun i e hi => (by simp at hi), fun x hx => (by rw [List.mem_singleton.mp hx]; exact Nat.le_refl _)⟩
/-- the whole table -/
structure WTab (succ : C → List (Int × C)) (ws : List Int) (c0 : C) (T : List (C × List Int)) : Prop where
  nodup : (T.map (·.1)).Nodup
  best : ∀ c p, tget T c = some p → BestW succ ws c0 c p
  all : ∀ q c, Path succ c0 q c → (tget T c).isSome = true
  len : ∀ e ∈ T, e.2.length < T.length
theorem Dj.tab {c0 : C} {T : List (C × List Int)} (hw : ∀ c x, x ∈ succ c → 0 < wM ws x.1) (d : Dj succ ws c0 T []) : WTab succ ws c0 T :=
  ⟨d.nodup, fun c p h => d.best _ (tget_mem h), fun q c h => d.done hw h, fun e he => by
    obtain ⟨i, hi⟩ := List.mem_iff_getElem?.mp he
    have := d.len i e hi
    have := (List.getElem?_eq_some_iff.mp hi).1
    omega⟩
end
def encP (T : List (List Int × List Int)) : List (List Int × PyData) := T.map fun e => (e.1, .list (e.2.map .int))
def encD (T : List (List Int × List Int)) : List (List Int × PyData) := T.map fun e => (e.1, .int (e.2.length : Int))
def encQ (T : List (List Int × List Int)) : List PyData := T.map fun e => tupD e.1
theorem dGet_map (f : List Int → PyData) (T : List (List Int × List Int)) (k : List Int) : dGet (T.map fun e => (e.1, f e.2)) k = (tget T k).map f := by
  induction T with
  | nil => rfl
  | cons e T ih => rw [List.map_cons, dGet_cons, tget_cons, ih]; split <;> rfl
theorem dGet_P (T : List (List Int × List Int)) (k : List Int) : dGet (encP T) k = (tget T k).map fun p => .list (p.map .int) := dGet_map (fun p => .list (p.map .int)) T k
theorem dGet_D (T : List (List Int × List Int)) (k : List Int) : dGet (encD T) k = (tget T k).map fun p => .int (p.length : Int) := dGet_map (fun p => .int (p.length : Int)) T k
def encM (es : List (Int × List Int)) : List PyData := es.map fun e => .tuple [.int e.1, tupD e.2]
theorem trans_ok (us : List (List Int)) (ts h : List Int) (r : Nat) (hu : us.length ≤ 1000) (hl : h.length ≤ 900) : F_transitions [.d (encT us ts), .d (tupD h), .d (.int r)] = .ok (.ol (encM (succM us r h))) := by
  have h0 : gIx (.d (encT us ts)) (.d (.int 0)) = .ok (.d (.tuple (encU us))) := rfl
  have main : ∀ (ms : List Nat) (acc : List (Int × List Int)) (e4 e5 : Option RV), (∀ m ∈ ms, m < us.length) → acc.length + ms.length ≤ 1000 → ∃ e4' e5', loopF (.nm 4) L0_transitions (ms.map natI) [some (.d (encT us ts)), some (.d (tupD h)), some (.d (.int r)), some (.ol (encM acc)), e4, e5]
      = .nx [some (.d (encT us ts)), some (.d (tupD h)), some (.d (.int r)), some (.ol (encM (acc ++ (ms.filter (okM us r h)).map fun m : Nat => ((m : Int), movM h m)))), e4', e5'] := by
    intro ms
    induction ms with
    | nil => intro acc e4 e5 _ _; exact ⟨e4, e5, by simp⟩
    | cons m ms ih =>
      intro acc e4 e5 hm hz
      rw [List.length_cons] at hz
      have hm0 := hm m List.mem_cons_self
      have p1 := possible_ok us ts h m (by omega) (by omega)
      have p1 : F_is_possible [.d (encT us ts), .d (tupD h), .d (.int m)] = _ := p1
      have p2 : F_moved [.d (tupD h), .d (.int m)] = .ok (.d (tupD (movM h m))) := moved_ok h m (by omega)
      have hln : gLen [.d (tupD (movM h m))] = .ok (.d (.int (movM h m).length)) := by rw [tupD, e_lenT, List.length_map]
      have hz1 : acc.length ≤ 1000000 := by omega
      rw [List.map_cons, loopF_cons]
      generalize hX : L0_transitions _ = X
      have ht : tgE (.nm 4) (natI m) [some (.d (encT us ts)), some (.d (tupD h)), some (.d (.int r)), some (.ol (encM acc)), e4, e5] = some [some (.d (encT us ts)), some (.d (tupD h)), some (.d (.int r)), some (.ol (encM acc)), some (.d (.int m)), e5] := rfl
      rw [ht]
      have el : (encM acc).length = acc.length := List.length_map ..
      by_cases c1 : canM us h m = true
      · by_cases c2 : (movM h m).length ≤ r
        · have ok : okM us r h m = true := by unfold okM; rw [c1, decide_eq_true c2]; rfl
          obtain ⟨e4', e5', ih⟩ := ih (acc ++ [((m : Int), movM h m)]) (some (.d (.int m))) (some (.d (tupD (movM h m)))) (fun x hx => hm x (List.mem_cons_of_mem _ hx)) (by simp; omega)
          refine ⟨e4', e5', ?_⟩
          rw [List.filter_cons_of_pos ok, List.map_cons, show acc ++ ((m : Int), movM h m) :: (ms.filter (okM us r h)).map (fun m : Nat => ((m : Int), movM h m)) = (acc ++ [((m : Int), movM h m)]) ++ (ms.filter (okM us r h)).map (fun m : Nat => ((m : Int), movM h m)) by simp, ← ih]
          have hb : L0_transitions [some (.d (encT us ts)), some (.d (tupD h)), some (.d (.int r)), some (.ol (encM acc)), some (.d (.int m)), e5] = .nx [some (.d (encT us ts)), some (.d (tupD h)), some (.d (.int r)), some (.ol (encM (acc ++ [((m : Int), movM h m)]))), some (.d (.int m)), some (.d (tupD (movM h m)))] := by
            have hdec : decide (((movM h m).length : Int) ≤ (r : Int)) = true := decide_eq_true (by omega)
            have hap : encM (acc ++ [((m : Int), movM h m)]) = encM acc ++ [.tuple [.int m, tupD (movM h m)]] := by unfold encM; rw [List.map_append]; rfl
            unfold L0_transitions
            rw [hap]
            simp only [e_nil, e_seq, e_fz, e_bk, e_ct, e_ret, e_retN, e_drop, e_set, e_if, e_for, e_cC, e_c2, e_c1, e_cA, e_aN, e_aC, e_cB, e_asB, e_bNot, e_bAnd, e_bOr, e_vAnd, e_vOr, e_vNot, e_vIf, e_bYes, e_iL, e_iT, e_iLb, e_iR, e_gL1, e_gL2, e_gL3, e_gT, e_gLb1, e_gLb2, e_gLb3, e_gLb4, e_nb1, e_nb2, e_bor1, e_bor2, e_bor3, e_bor4, e_arg1, e_arg2, e_arg3, e_arg4, e_putd, e_puto, e_toD1, e_toD2, e_allD0, e_allD1, e_allD2, e_gTupl, e_gList, e_tgnm, e_tgtp, e_tg0, e_tg1, e_sq1, e_sq2, e_sq3, e_sq4, e_sq5, e_qv2, e_qv3, e_qv4, e_qv5, e_data1, e_data2, e_data3, e_okI, e_okB, e_i2, e_sub, e_mul, e_mod, e_div, e_pow, e_lt, e_le, e_gt, e_ge, e_neg, e_addI, e_addS, e_addT, e_addL1, e_addL2, e_addL3, e_addL4, e_addL5, e_addL6, e_addL7, e_addL8, e_addL9, e_eq, e_ne, e_in, e_notIn, e_inT, e_inT2, e_inL1, e_inL2, e_inL3, e_is, e_isNot, e_isN1, e_isN2, e_isN3, e_isN4, e_isN5, e_isN6, e_isN7, e_ixT, e_ixL, e_ixO, e_ixB, e_ixSc, e_lenT, e_lenL, e_lenO, e_lenB, e_lenSc, e_lenS, e_tupT, e_tupL, e_tupO, e_tupB, e_lisT, e_lisL, e_lisO, e_lisB, e_min2, e_max2, e_any, e_all, e_sum, e_sorted, e_rev, e_sl, e_oN, e_isi, e_lc, e_wipe0, e_wipe1, e_iA, e_iAb, e_gAq1, e_gAq2, e_gAq3, e_gAqb1, e_gAqb2, e_gAqb3, e_gAqb4, e_no, e_cCh, e_cChI, e_aug, e_decT, e_decF, e_cDispS, e_cDT, e_cDK, e_cDisp1, e_storeA, e_stR1, e_stR2, e_stR3, e_sd1, e_keyD1, e_keyD2, e_keyTD, e_intsD, e_intsD0, e_borT, e_borT2, e_borK, e_borK2, e_argT, e_argT2, e_argK, e_argK2, e_nbT, e_nbK, e_putT, e_putK, e_gAt1, e_gAt2, e_gAt3, e_gAt4, e_gGetDK, e_gGetDT, e_gIxD, e_gInD, e_gNotInD, e_cGet1, e_cGet2, e_dk1, e_dk2, e_dk3, e_dk4, e_dt1, e_dt2, e_del, atI_zero, e_at1, e_at2, e_at3, e_at4, e_at5, e_at6, e_at7, e_at8, e_at9, e_atm, e_V, e_retV, e_unp, e_app, e_store, e_fzE, oS, rsO_some, Rs.bind_ok, Rs.bind_no, Rs.out_ok, Out.then_nx, Out.then_rt, Out.then_ct, Out.then_bk, fin_rt, fin_nx, List.getElem?_cons_zero, List.getElem?_cons_succ, List.set_cons_succ, List.set_cons_zero, List.length_cons, List.length_nil, Nat.reduceAdd, Nat.reduceLT, Nat.reduceLeDiff, Nat.reduceEqDiff, if_true, if_false, Bool.false_eq_true, Bool.not_true, Bool.not_false, and_self, true_and, and_true, List.map_cons, List.map_nil, Option.map_some, sh_int, sh_bool, sh_none, sh_tup, sh_lst, eqv_int, reduceIte, Option.bind_some, Option.bind_none, kitB_ll, kitB_lt, kitB_tt, kitB_tl, kitB_ii, tyD_list, tyD_int, Bool.true_and, Bool.false_and, Bool.and_true, Bool.and_false, Bool.or_true, Bool.true_or, Bool.false_or, Bool.or_false, Bool.and_self, Bool.or_self, e_cAK, List.append_nil, List.nil_append, List.cons_append, e_andB, e_orB, e_andR, e_orR, tyD_tuple, eqv_bool, eqv_none, tyD_bool, tyD_str, tyD_none, kitB_bb, kitB_nb, kitB_bi, kitB_ib, kitB_nl, kitB_nt, beq_self_eq_true, p1, c1, p2, hln, hdec, el, if_pos hz1]
          simp only [hb, lp_nx]
        · have ok : ¬ okM us r h m = true := by unfold okM; rw [c1, decide_eq_false c2]; simp
          obtain ⟨e4', e5', ih⟩ := ih acc (some (.d (.int m))) (some (.d (tupD (movM h m)))) (fun x hx => hm x (List.mem_cons_of_mem _ hx)) (by omega)
          refine ⟨e4', e5', ?_⟩
          rw [List.filter_cons_of_neg ok, ← ih]
          have hb : L0_transitions [some (.d (encT us ts)), some (.d (tupD h)), some (.d (.int r)), some (.ol (encM acc)), some (.d (.int m)), e5] = .nx [some (.d (encT us ts)), some (.d (tupD h)), some (.d (.int r)), some (.ol (encM acc)), some (.d (.int m)), some (.d (tupD (movM h m)))] := by
            have hdec : decide (((movM h m).length : Int) ≤ (r : Int)) = false := decide_eq_false (by omega)
            unfold L0_transitions
            simp only [e_nil, e_seq, e_fz, e_bk, e_ct, e_ret, e_retN, e_drop, e_set, e_if, e_for, e_cC, e_c2, e_c1, e_cA, e_aN, e_aC, e_cB, e_asB, e_bNot, e_bAnd, e_bOr, e_vAnd, e_vOr, e_vNot, e_vIf, e_bYes, e_iL, e_iT, e_iLb, e_iR, e_gL1, e_gL2, e_gL3, e_gT, e_gLb1, e_gLb2, e_gLb3, e_gLb4, e_nb1, e_nb2, e_bor1, e_bor2, e_bor3, e_bor4, e_arg1, e_arg2, e_arg3, e_arg4, e_putd, e_puto, e_toD1, e_toD2, e_allD0, e_allD1, e_allD2, e_gTupl, e_gList, e_tgnm, e_tgtp, e_tg0, e_tg1, e_sq1, e_sq2, e_sq3, e_sq4, e_sq5, e_qv2, e_qv3, e_qv4, e_qv5, e_data1, e_data2, e_data3, e_okI, e_okB, e_i2, e_sub, e_mul, e_mod, e_div, e_pow, e_lt, e_le, e_gt, e_ge, e_neg, e_addI, e_addS, e_addT, e_addL1, e_addL2, e_addL3, e_addL4, e_addL5, e_addL6, e_addL7, e_addL8, e_addL9, e_eq, e_ne, e_in, e_notIn, e_inT, e_inT2, e_inL1, e_inL2, e_inL3, e_is, e_isNot, e_isN1, e_isN2, e_isN3, e_isN4, e_isN5, e_isN6, e_isN7, e_ixT, e_ixL, e_ixO, e_ixB, e_ixSc, e_lenT, e_lenL, e_lenO, e_lenB, e_lenSc, e_lenS, e_tupT, e_tupL, e_tupO, e_tupB, e_lisT, e_lisL, e_lisO, e_lisB, e_min2, e_max2, e_any, e_all, e_sum, e_sorted, e_rev, e_sl, e_oN, e_isi, e_lc, e_wipe0, e_wipe1, e_iA, e_iAb, e_gAq1, e_gAq2, e_gAq3, e_gAqb1, e_gAqb2, e_gAqb3, e_gAqb4, e_no, e_cCh, e_cChI, e_aug, e_decT, e_decF, e_cDispS, e_cDT, e_cDK, e_cDisp1, e_storeA, e_stR1, e_stR2, e_stR3, e_sd1, e_keyD1, e_keyD2, e_keyTD, e_intsD, e_intsD0, e_borT, e_borT2, e_borK, e_borK2, e_argT, e_argT2, e_argK, e_argK2, e_nbT, e_nbK, e_putT, e_putK, e_gAt1, e_gAt2, e_gAt3, e_gAt4, e_gGetDK, e_gGetDT, e_gIxD, e_gInD, e_gNotInD, e_cGet1, e_cGet2, e_dk1, e_dk2, e_dk3, e_dk4, e_dt1, e_dt2, e_del, atI_zero, e_at1, e_at2, e_at3, e_at4, e_at5, e_at6, e_at7, e_at8, e_at9, e_atm, e_V, e_retV, e_unp, e_app, e_store, e_fzE, oS, rsO_some, Rs.bind_ok, Rs.bind_no, Rs.out_ok, Out.then_nx, Out.then_rt, Out.then_ct, Out.then_bk, fin_rt, fin_nx, List.getElem?_cons_zero, List.getElem?_cons_succ, List.set_cons_succ, List.set_cons_zero, List.length_cons, List.length_nil, Nat.reduceAdd, Nat.reduceLT, Nat.reduceLeDiff, Nat.reduceEqDiff, if_true, if_false, Bool.false_eq_true, Bool.not_true, Bool.not_false, and_self, true_and, and_true, List.map_cons, List.map_nil, Option.map_some, sh_int, sh_bool, sh_none, sh_tup, sh_lst, eqv_int, reduceIte, Option.bind_some, Option.bind_none, kitB_ll, kitB_lt, kitB_tt, kitB_tl, kitB_ii, tyD_list, tyD_int, Bool.true_and, Bool.false_and, Bool.and_true, Bool.and_false, Bool.or_true, Bool.true_or, Bool.false_or, Bool.or_false, Bool.and_self, Bool.or_self, e_cAK, List.append_nil, List.nil_append, List.cons_append, e_andB, e_orB, e_andR, e_orR, tyD_tuple, eqv_bool, eqv_none, tyD_bool, tyD_str, tyD_none, kitB_bb, kitB_nb, kitB_bi, kitB_ib, kitB_nl, kitB_nt, beq_self_eq_true, p1, c1, p2, hln, hdec]
          simp only [hb, lp_nx]
      · have c1' : canM us h m = false := by simpa using c1
        have ok : ¬ okM us r h m = true := by unfold okM; rw [c1']; simp
        obtain ⟨e4', e5', ih⟩ := ih acc (some (.d (.int m))) e5 (fun x hx => hm x (List.mem_cons_of_mem _ hx)) (by omega)
        refine ⟨e4', e5', ?_⟩
        rw [List.filter_cons_of_neg ok, ← ih]
        have hb : L0_transitions [some (.d (encT us ts)), some (.d (tupD h)), some (.d (.int r)), some (.ol (encM acc)), some (.d (.int m)), e5] = .nx [some (.d (encT us ts)), some (.d (tupD h)), some (.d (.int r)), some (.ol (encM acc)), some (.d (.int m)), e5] := by
          unfold L0_transitions
          simp only [e_nil, e_seq, e_fz, e_bk, e_ct, e_ret, e_retN, e_drop, e_set, e_if, e_for, e_cC, e_c2, e_c1, e_cA, e_aN, e_aC, e_cB, e_asB, e_bNot, e_bAnd, e_bOr, e_vAnd, e_vOr, e_vNot, e_vIf, e_bYes, e_iL, e_iT, e_iLb, e_iR, e_gL1, e_gL2, e_gL3, e_gT, e_gLb1, e_gLb2, e_gLb3, e_gLb4, e_nb1, e_nb2, e_bor1, e_bor2, e_bor3, e_bor4, e_arg1, e_arg2, e_arg3, e_arg4, e_putd, e_puto, e_toD1, e_toD2, e_allD0, e_allD1, e_allD2, e_gTupl, e_gList, e_tgnm, e_tgtp, e_tg0, e_tg1, e_sq1, e_sq2, e_sq3, e_sq4, e_sq5, e_qv2, e_qv3, e_qv4, e_qv5, e_data1, e_data2, e_data3, e_okI, e_okB, e_i2, e_sub, e_mul, e_mod, e_div, e_pow, e_lt, e_le, e_gt, e_ge, e_neg, e_addI, e_addS, e_addT, e_addL1, e_addL2, e_addL3, e_addL4, e_addL5, e_addL6, e_addL7, e_addL8, e_addL9, e_eq, e_ne, e_in, e_notIn, e_inT, e_inT2, e_inL1, e_inL2, e_inL3, e_is, e_isNot, e_isN1, e_isN2, e_isN3, e_isN4, e_isN5, e_isN6, e_isN7, e_ixT, e_ixL, e_ixO, e_ixB, e_ixSc, e_lenT, e_lenL, e_lenO, e_lenB, e_lenSc, e_lenS, e_tupT, e_tupL, e_tupO, e_tupB, e_lisT, e_lisL, e_lisO, e_lisB, e_min2, e_max2, e_any, e_all, e_sum, e_sorted, e_rev, e_sl, e_oN, e_isi, e_lc, e_wipe0, e_wipe1, e_iA, e_iAb, e_gAq1, e_gAq2, e_gAq3, e_gAqb1, e_gAqb2, e_gAqb3, e_gAqb4, e_no, e_cCh, e_cChI, e_aug, e_decT, e_decF, e_cDispS, e_cDT, e_cDK, e_cDisp1, e_storeA, e_stR1, e_stR2, e_stR3, e_sd1, e_keyD1, e_keyD2, e_keyTD, e_intsD, e_intsD0, e_borT, e_borT2, e_borK, e_borK2, e_argT, e_argT2, e_argK, e_argK2, e_nbT, e_nbK, e_putT, e_putK, e_gAt1, e_gAt2, e_gAt3, e_gAt4, e_gGetDK, e_gGetDT, e_gIxD, e_gInD, e_gNotInD, e_cGet1, e_cGet2, e_dk1, e_dk2, e_dk3, e_dk4, e_dt1, e_dt2, e_del, atI_zero, e_at1, e_at2, e_at3, e_at4, e_at5, e_at6, e_at7, e_at8, e_at9, e_atm, e_V, e_retV, e_unp, e_app, e_store, e_fzE, oS, rsO_some, Rs.bind_ok, Rs.bind_no, Rs.out_ok, Out.then_nx, Out.then_rt, Out.then_ct, Out.then_bk, fin_rt, fin_nx, List.getElem?_cons_zero, List.getElem?_cons_succ, List.set_cons_succ, List.set_cons_zero, List.length_cons, List.length_nil, Nat.reduceAdd, Nat.reduceLT, Nat.reduceLeDiff, Nat.reduceEqDiff, if_true, if_false, Bool.false_eq_true, Bool.not_true, Bool.not_false, and_self, true_and, and_true, List.map_cons, List.map_nil, Option.map_some, sh_int, sh_bool, sh_none, sh_tup, sh_lst, eqv_int, reduceIte, Option.bind_some, Option.bind_none, kitB_ll, kitB_lt, kitB_tt, kitB_tl, kitB_ii, tyD_list, tyD_int, Bool.true_and, Bool.false_and, Bool.and_true, Bool.and_false, Bool.or_true, Bool.true_or, Bool.false_or, Bool.or_false, Bool.and_self, Bool.or_self, e_cAK, List.append_nil, List.nil_append, List.cons_append, e_andB, e_orB, e_andR, e_orR, tyD_tuple, eqv_bool, eqv_none, tyD_bool, tyD_str, tyD_none, kitB_bb, kitB_nb, kitB_bi, kitB_ib, kitB_nl, kitB_nt, beq_self_eq_true, p1, c1']
        simp only [hb, lp_nx]
  obtain ⟨e4', e5', e⟩ := main (List.range us.length) [] none none (fun m hm => List.mem_range.mp hm) (by simp; omega)
  have hr := e_R1n (n := us.length) (by omega)
  rw [rng_nat] at hr
  rw [List.nil_append] at e
  show (sSeq _ _ [some (.d (encT us ts)), some (.d (tupD h)), some (.d (.int r)), none, none, none]).fin = _
  have e0 : encM [] = [] := rfl
  rw [e0] at e
  simp only [e_nil, e_seq, e_fz, e_bk, e_ct, e_ret, e_retN, e_drop, e_set, e_if, e_for, e_cC, e_c2, e_c1, e_cA, e_aN, e_aC, e_cB, e_asB, e_bNot, e_bAnd, e_bOr, e_vAnd, e_vOr, e_vNot, e_vIf, e_bYes, e_iL, e_iT, e_iLb, e_iR, e_gL1, e_gL2, e_gL3, e_gT, e_gLb1, e_gLb2, e_gLb3, e_gLb4, e_nb1, e_nb2, e_bor1, e_bor2, e_bor3, e_bor4, e_arg1, e_arg2, e_arg3, e_arg4, e_putd, e_puto, e_toD1, e_toD2, e_allD0, e_allD1, e_allD2, e_gTupl, e_gList, e_tgnm, e_tgtp, e_tg0, e_tg1, e_sq1, e_sq2, e_sq3, e_sq4, e_sq5, e_qv2, e_qv3, e_qv4, e_qv5, e_data1, e_data2, e_data3, e_okI, e_okB, e_i2, e_sub, e_mul, e_mod, e_div, e_pow, e_lt, e_le, e_gt, e_ge, e_neg, e_addI, e_addS, e_addT, e_addL1, e_addL2, e_addL3, e_addL4, e_addL5, e_addL6, e_addL7, e_addL8, e_addL9, e_eq, e_ne, e_in, e_notIn, e_inT, e_inT2, e_inL1, e_inL2, e_inL3, e_is, e_isNot, e_isN1, e_isN2, e_isN3, e_isN4, e_isN5, e_isN6, e_isN7, e_ixT, e_ixL, e_ixO, e_ixB, e_ixSc, e_lenT, e_lenL, e_lenO, e_lenB, e_lenSc, e_lenS, e_tupT, e_tupL, e_tupO, e_tupB, e_lisT, e_lisL, e_lisO, e_lisB, e_min2, e_max2, e_any, e_all, e_sum, e_sorted, e_rev, e_sl, e_oN, e_isi, e_lc, e_wipe0, e_wipe1, e_iA, e_iAb, e_gAq1, e_gAq2, e_gAq3, e_gAqb1, e_gAqb2, e_gAqb3, e_gAqb4, e_no, e_cCh, e_cChI, e_aug, e_decT, e_decF, e_cDispS, e_cDT, e_cDK, e_cDisp1, e_storeA, e_stR1, e_stR2, e_stR3, e_sd1, e_keyD1, e_keyD2, e_keyTD, e_intsD, e_intsD0, e_borT, e_borT2, e_borK, e_borK2, e_argT, e_argT2, e_argK, e_argK2, e_nbT, e_nbK, e_putT, e_putK, e_gAt1, e_gAt2, e_gAt3, e_gAt4, e_gGetDK, e_gGetDT, e_gIxD, e_gInD, e_gNotInD, e_cGet1, e_cGet2, e_dk1, e_dk2, e_dk3, e_dk4, e_dt1, e_dt2, e_del, atI_zero, e_at1, e_at2, e_at3, e_at4, e_at5, e_at6, e_at7, e_at8, e_at9, e_atm, e_V, e_retV, e_unp, e_app, e_store, e_fzE, oS, rsO_some, Rs.bind_ok, Rs.bind_no, Rs.out_ok, Out.then_nx, Out.then_rt, Out.then_ct, Out.then_bk, fin_rt, fin_nx, List.getElem?_cons_zero, List.getElem?_cons_succ, List.set_cons_succ, List.set_cons_zero, List.length_cons, List.length_nil, Nat.reduceAdd, Nat.reduceLT, Nat.reduceLeDiff, Nat.reduceEqDiff, if_true, if_false, Bool.false_eq_true, Bool.not_true, Bool.not_false, and_self, true_and, and_true, List.map_cons, List.map_nil, Option.map_some, sh_int, sh_bool, sh_none, sh_tup, sh_lst, eqv_int, reduceIte, Option.bind_some, Option.bind_none, kitB_ll, kitB_lt, kitB_tt, kitB_tl, kitB_ii, tyD_list, tyD_int, Bool.true_and, Bool.false_and, Bool.and_true, Bool.and_false, Bool.or_true, Bool.true_or, Bool.false_or, Bool.or_false, Bool.and_self, Bool.or_self, e_cAK, List.append_nil, List.nil_append, List.cons_append, e_andB, e_orB, e_andR, e_orR, tyD_tuple, eqv_bool, eqv_none, tyD_bool, tyD_str, tyD_none, kitB_bb, kitB_nb, kitB_bi, kitB_ib, kitB_nl, kitB_nt, beq_self_eq_true, h0, encU_len, hr, e]
  rfl
/-! one configuration is left for all others -/
theorem succM_len (us : List (List Int)) (r : Nat) (h : List Int) : (succM us r h).length ≤ us.length := by
  unfold succM
  rw [List.length_map]
  exact Nat.le_trans (List.length_filter_le _ _) (by simp)
theorem e_while (n : Nat) (c : VEnv → Rs Bool) (f : VEnv → Out) (env : VEnv) : sWhile n c f env = loopW c f n env := rfl
/-! ### cheapest_ways, walked -/
structure PrOk (ws : List Int) (n : Nat) : Prop where
  len : ws.length = n
  pos : ∀ x ∈ ws, 0 < x ∧ x ≤ 1000
theorem PrOk.at {ws : List Int} {n : Nat} (h : PrOk ws n) {m : Int} (h0 : 0 ≤ m) (h1 : m < n) : atI (ws.map PyData.int) m = some (.int (wM ws m)) ∧ 0 < wM ws m ∧ wM ws m ≤ 1000 := by
  have hl := h.len
  obtain ⟨k, rfl⟩ : ∃ k : Nat, m = (k : Int) := ⟨m.toNat, by omega⟩
  have hk : k < ws.length := by omega
  have e : wM ws (k : Int) = ws[k] := by
    unfold wM
    rw [Int.toNat_natCast, List.getD_eq_getElem?_getD, List.getElem?_eq_getElem hk]
    rfl
  refine ⟨?_, by rw [e]; exact h.pos _ (List.getElem_mem hk)⟩
  rw [atI_cons _ _ (by rw [List.length_map]; exact hk), List.getElem?_map, List.getElem?_eq_getElem hk, e]
  rfl
theorem PrOk.succ {ws : List Int} {us : List (List Int)} (h : PrOk ws us.length) (r : Nat) : ∀ c x, x ∈ succM us r c → 0 < wM ws x.1 := fun c x hx => by
  obtain ⟨h1, _⟩ := succM_mem.mp (show (x.1, x.2) ∈ succM us r c from hx)
  exact (h.at h1.1 (by omega)).2.1
def encW (ws : List Int) (T : List (List Int × List Int)) : List (List Int × PyData) := T.map fun e => (e.1, .tuple [.int (costM ws e.2), tupD e.2])
theorem dGet_W (ws : List Int) (T : List (List Int × List Int)) (k : List Int) : dGet (encW ws T) k = (tget T k).map fun p => .tuple [.int (costM ws p), tupD p] := dGet_map (fun p => .tuple [.int (costM ws p), tupD p]) T k
theorem path_len {us : List (List Int)} {r : Nat} {h0 p c : List Int} (h : Path (succM us r) h0 p c) : c.length ≤ max h0.length r := by
  cases h with
  | nil => omega
  | snoc hp hs =>
    obtain ⟨h1, rfl⟩ := succM_mem.mp hs
    omega
theorem push_in {us : List (List Int)} {ws : List Int} (pw : PrOk ws us.length) (a b : Option RV) (T : List (List Int × List Int)) (h p : List Int) (hp9 : p.length ≤ 900000) : ∀ (es : List (Int × List Int)) (Q : List (List Int × List Int)) (e9 e10 : Option RV), (∀ x ∈ es, 0 ≤ x.1 ∧ x.1 < us.length) → Q.length + es.length ≤ 900000 → IsHp PySem.W.dataLt (Q.map (encI ws)) →
    ∃ (Q2 : List (List Int × List Int)) (e9' e10' : Option RV), loopF (.tp [9, 10]) L0_cheapest_ways (encM es) [a, b, some (.d (.list (ws.map .int))), some (.ot (encW ws T)), some (.ol (Q.map (encI ws))), some (.d (.int (costM ws p))), some (.d (.int (p.length : Int))), some (.d (tupD p)), some (.d (tupD h)), e9, e10]
      = .nx [a, b, some (.d (.list (ws.map .int))), some (.ot (encW ws T)), some (.ol (Q2.map (encI ws))), some (.d (.int (costM ws p))), some (.d (.int (p.length : Int))), some (.d (tupD p)), some (.d (tupD h)), e9', e10']
      ∧ Q2.Perm (pushes T p es ++ Q) ∧ IsHp PySem.W.dataLt (Q2.map (encI ws))
  | [], Q, e9, e10, _, _, hh => ⟨Q, e9, e10, rfl, List.Perm.refl _, hh⟩
  | (m, q) :: es, Q, e9, e10, hm, hz, hh => by
    rw [List.length_cons] at hz
    have hm0 := hm (m, q) List.mem_cons_self
    obtain ⟨ix, _, _⟩ := pw.at hm0.1 hm0.2
    have htg : tgE (.tp [9, 10]) (.tuple [.int m, tupD q]) [a, b, some (.d (.list (ws.map .int))), some (.ot (encW ws T)), some (.ol (Q.map (encI ws))), some (.d (.int (costM ws p))), some (.d (.int (p.length : Int))), some (.d (tupD p)), some (.d (tupD h)), e9, e10] = some [a, b, some (.d (.list (ws.map .int))), some (.ot (encW ws T)), some (.ol (Q.map (encI ws))), some (.d (.int (costM ws p))), some (.d (.int (p.length : Int))), some (.d (tupD p)), some (.d (tupD h)), some (.d (.int m)), some (.d (tupD q))] := rfl
    have hk1 : keyTD (tupD q) = some q := intsD_map q
    have hcons : encM ((m, q) :: es) = .tuple [.int m, tupD q] :: encM es := rfl
    rw [hcons, loopF_cons, htg]
    cases hq : tget T q with
    | some q' =>
      have e1 : dGet (encW ws T) q = some (.tuple [.int (costM ws q'), tupD q']) := by rw [dGet_W, hq]; rfl
      obtain ⟨Q2, e9', e10', ih, pr, hp⟩ := push_in pw a b T h p hp9 es Q (some (.d (.int m))) (some (.d (tupD q))) (fun x hx => hm x (List.mem_cons_of_mem _ hx)) (by omega) hh
      refine ⟨Q2, e9', e10', ?_, ?_, hp⟩
      · rw [← ih]
        have hb : L0_cheapest_ways [a, b, some (.d (.list (ws.map .int))), some (.ot (encW ws T)), some (.ol (Q.map (encI ws))), some (.d (.int (costM ws p))), some (.d (.int (p.length : Int))), some (.d (tupD p)), some (.d (tupD h)), some (.d (.int m)), some (.d (tupD q))] = .nx [a, b, some (.d (.list (ws.map .int))), some (.ot (encW ws T)), some (.ol (Q.map (encI ws))), some (.d (.int (costM ws p))), some (.d (.int (p.length : Int))), some (.d (tupD p)), some (.d (tupD h)), some (.d (.int m)), some (.d (tupD q))] := by
          unfold L0_cheapest_ways
          generalize encW ws T = EW at *
          generalize Q.map (encI ws) = QQ at *
          simp only [e_nil, e_seq, e_fz, e_bk, e_ct, e_ret, e_retN, e_drop, e_set, e_if, e_for, e_cC, e_c2, e_c1, e_cA, e_aN, e_aC, e_cB, e_asB, e_bNot, e_bAnd, e_bOr, e_vAnd, e_vOr, e_vNot, e_vIf, e_bYes, e_iL, e_iT, e_iLb, e_iR, e_gL1, e_gL2, e_gL3, e_gT, e_gLb1, e_gLb2, e_gLb3, e_gLb4, e_nb1, e_nb2, e_bor1, e_bor2, e_bor3, e_bor4, e_arg1, e_arg2, e_arg3, e_arg4, e_putd, e_puto, e_toD1, e_toD2, e_allD0, e_allD1, e_allD2, e_gTupl, e_gList, e_tgnm, e_tgtp, e_tg0, e_tg1, e_sq1, e_sq2, e_sq3, e_sq4, e_sq5, e_qv2, e_qv3, e_qv4, e_qv5, e_data1, e_data2, e_data3, e_okI, e_okB, e_i2, e_sub, e_mul, e_mod, e_div, e_pow, e_lt, e_le, e_gt, e_ge, e_neg, e_addI, e_addS, e_addT, e_addL1, e_addL2, e_addL3, e_addL4, e_addL5, e_addL6, e_addL7, e_addL8, e_addL9, e_eq, e_ne, e_in, e_notIn, e_inT, e_inT2, e_inL1, e_inL2, e_inL3, e_is, e_isNot, e_isN1, e_isN2, e_isN3, e_isN4, e_isN5, e_isN6, e_isN7, e_ixT, e_ixL, e_ixO, e_ixB, e_ixSc, e_lenT, e_lenL, e_lenO, e_lenB, e_lenSc, e_lenS, e_tupT, e_tupL, e_tupO, e_tupB, e_lisT, e_lisL, e_lisO, e_lisB, e_min2, e_max2, e_any, e_all, e_sum, e_sorted, e_rev, e_sl, e_oN, e_isi, e_lc, e_wipe0, e_wipe1, e_iA, e_iAb, e_gAq1, e_gAq2, e_gAq3, e_gAqb1, e_gAqb2, e_gAqb3, e_gAqb4, e_no, e_cCh, e_cChI, e_aug, e_decT, e_decF, e_cDispS, e_cDT, e_cDK, e_cDisp1, e_storeA, e_stR1, e_stR2, e_stR3, e_sd1, e_keyD1, e_keyD2, e_keyTD, e_intsD, e_intsD0, e_borT, e_borT2, e_borK, e_borK2, e_argT, e_argT2, e_argK, e_argK2, e_nbT, e_nbK, e_putT, e_putK, e_gAt1, e_gAt2, e_gAt3, e_gAt4, e_gGetDK, e_gGetDT, e_gIxD, e_gInD, e_gNotInD, e_cGet1, e_cGet2, e_dk1, e_dk2, e_dk3, e_dk4, e_dt1, e_dt2, e_del, atI_zero, e_at1, e_at2, e_at3, e_at4, e_at5, e_at6, e_at7, e_at8, e_at9, e_atm, e_V, e_retV, e_unp, e_app, e_store, e_fzE, oS, rsO_some, Rs.bind_ok, Rs.bind_no, Rs.out_ok, Out.then_nx, Out.then_rt, Out.then_ct, Out.then_bk, fin_rt, fin_nx, List.getElem?_cons_zero, List.getElem?_cons_succ, List.set_cons_succ, List.set_cons_zero, List.length_cons, List.length_nil, Nat.reduceAdd, Nat.reduceLT, Nat.reduceLeDiff, Nat.reduceEqDiff, if_true, if_false, Bool.false_eq_true, Bool.not_true, Bool.not_false, and_self, true_and, and_true, List.map_cons, List.map_nil, Option.map_some, sh_int, sh_bool, sh_none, sh_tup, sh_lst, eqv_int, reduceIte, Option.bind_some, Option.bind_none, kitB_ll, kitB_lt, kitB_tt, kitB_tl, kitB_ii, tyD_list, tyD_int, Bool.true_and, Bool.false_and, Bool.and_true, Bool.and_false, Bool.or_true, Bool.true_or, Bool.false_or, Bool.or_false, Bool.and_self, Bool.or_self, e_cAK, List.append_nil, List.nil_append, List.cons_append, e_andB, e_orB, e_andR, e_orR, tyD_tuple, eqv_bool, eqv_none, tyD_bool, tyD_str, tyD_none, kitB_bb, kitB_nb, kitB_bi, kitB_ib, kitB_nl, kitB_nt, beq_self_eq_true, hk1, e1, Option.isSome_some]
        simp only [hb, lp_nx]
      · refine pr.trans ?_
        have : pushes T p ((m, q) :: es) = pushes T p es := by
          unfold pushes
          rw [List.filter_cons_of_neg (by simp [hq])]
        rw [this]
    | none =>
      have e1 : dGet (encW ws T) q = none := by rw [dGet_W, hq]; rfl
      obtain ⟨Q1, hQ1, pQ1⟩ := perm_enc (ws := ws) (ds := hPush PySem.W.dataLt (Q.map (encI ws)) (encI ws (p ++ [m], q))) (xs := (p ++ [m], q) :: Q) (hPush_perm _ _)
      have hp1 : IsHp PySem.W.dataLt (Q1.map (encI ws)) := by rw [← hQ1]; exact hPush_hp data_ord hh _
      have l1 : Q1.length = Q.length + 1 := pQ1.length_eq
      obtain ⟨Q2, e9', e10', ih, pr, hp⟩ := push_in pw a b T h p hp9 es Q1 (some (.d (.int m))) (some (.d (tupD q))) (fun x hx => hm x (List.mem_cons_of_mem _ hx)) (by omega) hp1
      refine ⟨Q2, e9', e10', ?_, ?_, hp⟩
      · rw [← ih]
        have hb : L0_cheapest_ways [a, b, some (.d (.list (ws.map .int))), some (.ot (encW ws T)), some (.ol (Q.map (encI ws))), some (.d (.int (costM ws p))), some (.d (.int (p.length : Int))), some (.d (tupD p)), some (.d (tupD h)), some (.d (.int m)), some (.d (tupD q))] = .nx [a, b, some (.d (.list (ws.map .int))), some (.ot (encW ws T)), some (.ol (Q1.map (encI ws))), some (.d (.int (costM ws p))), some (.d (.int (p.length : Int))), some (.d (tupD p)), some (.d (tupD h)), some (.d (.int m)), some (.d (tupD q))] := by
          have lQ : (Q.map (encI ws)).length ≤ 1000000 := by rw [List.length_map]; omega
          have al : alkAll (encI ws (p ++ [m], q) :: Q.map (encI ws)) = true := encI_all ws ((p ++ [m], q) :: Q)
          have ei : encI ws (p ++ [m], q) = .tuple [.int (costM ws p + wM ws m), .int ((p.length : Int) + 1), .tuple (p.map .int ++ [.int m]), tupD q] := by
            unfold encI
            rw [cost_snoc]
            have : (((p ++ [m]).length : Nat) : Int) = (p.length : Int) + 1 := by rw [List.length_append, List.length_singleton]; omega
            show PyData.tuple [_, .int (((p ++ [m]).length : Nat) : Int), tupD (p ++ [m]), _] = _
            rw [this]
            unfold tupD
            rw [List.map_append]
            rfl
          have hz3 : p.length ≤ 999999 := by omega
          rw [ei] at al hQ1
          have hc : Q.length ≤ 1000000 := by omega
          have gt : tupD p = .tuple (p.map .int) := rfl
          unfold L0_cheapest_ways
          rw [gt]
          generalize encW ws T = EW at *
          generalize hQQ : Q.map (encI ws) = QQ at *
          generalize Q1.map (encI ws) = Q1Q at *
          simp only [e_nil, e_seq, e_fz, e_bk, e_ct, e_ret, e_retN, e_drop, e_set, e_if, e_for, e_cC, e_c2, e_c1, e_cA, e_aN, e_aC, e_cB, e_asB, e_bNot, e_bAnd, e_bOr, e_vAnd, e_vOr, e_vNot, e_vIf, e_bYes, e_iL, e_iT, e_iLb, e_iR, e_gL1, e_gL2, e_gL3, e_gT, e_gLb1, e_gLb2, e_gLb3, e_gLb4, e_nb1, e_nb2, e_bor1, e_bor2, e_bor3, e_bor4, e_arg1, e_arg2, e_arg3, e_arg4, e_putd, e_puto, e_toD1, e_toD2, e_allD0, e_allD1, e_allD2, e_gTupl, e_gList, e_tgnm, e_tgtp, e_tg0, e_tg1, e_sq1, e_sq2, e_sq3, e_sq4, e_sq5, e_qv2, e_qv3, e_qv4, e_qv5, e_data1, e_data2, e_data3, e_okI, e_okB, e_i2, e_sub, e_mul, e_mod, e_div, e_pow, e_lt, e_le, e_gt, e_ge, e_neg, e_addI, e_addS, e_addT, e_addL1, e_addL2, e_addL3, e_addL4, e_addL5, e_addL6, e_addL7, e_addL8, e_addL9, e_eq, e_ne, e_in, e_notIn, e_inT, e_inT2, e_inL1, e_inL2, e_inL3, e_is, e_isNot, e_isN1, e_isN2, e_isN3, e_isN4, e_isN5, e_isN6, e_isN7, e_ixT, e_ixL, e_ixO, e_ixB, e_ixSc, e_lenT, e_lenL, e_lenO, e_lenB, e_lenSc, e_lenS, e_tupT, e_tupL, e_tupO, e_tupB, e_lisT, e_lisL, e_lisO, e_lisB, e_min2, e_max2, e_any, e_all, e_sum, e_sorted, e_rev, e_sl, e_oN, e_isi, e_lc, e_wipe0, e_wipe1, e_iA, e_iAb, e_gAq1, e_gAq2, e_gAq3, e_gAqb1, e_gAqb2, e_gAqb3, e_gAqb4, e_no, e_cCh, e_cChI, e_aug, e_decT, e_decF, e_cDispS, e_cDT, e_cDK, e_cDisp1, e_storeA, e_stR1, e_stR2, e_stR3, e_sd1, e_keyD1, e_keyD2, e_keyTD, e_intsD, e_intsD0, e_borT, e_borT2, e_borK, e_borK2, e_argT, e_argT2, e_argK, e_argK2, e_nbT, e_nbK, e_putT, e_putK, e_gAt1, e_gAt2, e_gAt3, e_gAt4, e_gGetDK, e_gGetDT, e_gIxD, e_gInD, e_gNotInD, e_cGet1, e_cGet2, e_dk1, e_dk2, e_dk3, e_dk4, e_dt1, e_dt2, e_del, atI_zero, e_at1, e_at2, e_at3, e_at4, e_at5, e_at6, e_at7, e_at8, e_at9, e_atm, e_V, e_retV, e_unp, e_app, e_store, e_fzE, oS, rsO_some, Rs.bind_ok, Rs.bind_no, Rs.out_ok, Out.then_nx, Out.then_rt, Out.then_ct, Out.then_bk, fin_rt, fin_nx, List.getElem?_cons_zero, List.getElem?_cons_succ, List.set_cons_succ, List.set_cons_zero, List.length_cons, List.length_nil, Nat.reduceAdd, Nat.reduceLT, Nat.reduceLeDiff, Nat.reduceEqDiff, if_true, if_false, Bool.false_eq_true, Bool.not_true, Bool.not_false, and_self, true_and, and_true, List.map_cons, List.map_nil, Option.map_some, sh_int, sh_bool, sh_none, sh_tup, sh_lst, eqv_int, reduceIte, Option.bind_some, Option.bind_none, kitB_ll, kitB_lt, kitB_tt, kitB_tl, kitB_ii, tyD_list, tyD_int, Bool.true_and, Bool.false_and, Bool.and_true, Bool.and_false, Bool.or_true, Bool.true_or, Bool.false_or, Bool.or_false, Bool.and_self, Bool.or_self, e_cAK, List.append_nil, List.nil_append, List.cons_append, e_andB, e_orB, e_andR, e_orR, tyD_tuple, eqv_bool, eqv_none, tyD_bool, tyD_str, tyD_none, kitB_bb, kitB_nb, kitB_bi, kitB_ib, kitB_nl, kitB_nt, beq_self_eq_true, hk1, e1, Option.isSome_none, e_hpush, ix, List.length_map, if_pos hz3, lQ, al, hQ1]
        simp only [hb, lp_nx]
      · refine pr.trans ?_
        have : pushes T p ((m, q) :: es) = (p ++ [m], q) :: pushes T p es := by
          unfold pushes
          rw [List.filter_cons_of_pos (by simp [hq])]
          rfl
        rw [this]
        exact (List.Perm.append_left _ pQ1).trans List.perm_middle
theorem dj_count {us : List (List Int)} {r : Nat} {ws : List Int} {c0 : List Int} {T : List (List Int × List Int)} {Q : List (List Int × List Int)} (d : Dj (succM us r) ws c0 T Q) (h0 : Cf us.length c0) : T.length ≤ 2 ^ us.length := by
  have := cf_count us.length (T.map (·.1)) d.nodup fun c hc => by
    obtain ⟨e, he, rfl⟩ := List.mem_map.mp hc
    exact h0.path (d.best e he).path
  rwa [List.length_map] at this
theorem pushes_len (T : List (List Int × List Int)) (p : List Int) (es : List (Int × List Int)) : (pushes T p es).length ≤ es.length := by
  unfold pushes
  rw [List.length_map]
  exact List.length_filter_le _ _
theorem ways_while {us : List (List Int)} {ws : List Int} (ts : List Int) (r : Nat) (pw : PrOk ws us.length) (hu : us.length ≤ 8) (hr8 : r ≤ 800) (n : Nat) : ∀ (k : Nat) (T Q : List (List Int × List Int)) (e5 e6 e7 e8 e9 e10 : Option RV), Dj (succM us r) ws [] T Q → IsHp PySem.W.dataLt (Q.map (encI ws)) → Q.length + (256 - T.length) * 8 < k → k ≤ 3000 →
    ∃ (T2 : List (List Int × List Int)) (j5 j6 j7 j8 j9 j10 : Option RV), loopW (cB (c2 gGt (cA gLen (aC (cV 4) aN)) (cC (.int 0)))) L1_cheapest_ways (k + n) [some (.d (encT us ts)), some (.d (.int (r : Int))), some (.d (.list (ws.map .int))), some (.ot (encW ws T)), some (.ol (Q.map (encI ws))), e5, e6, e7, e8, e9, e10]
      = .nx [some (.d (encT us ts)), some (.d (.int (r : Int))), some (.d (.list (ws.map .int))), some (.ot (encW ws T2)), some (.ol []), j5, j6, j7, j8, j9, j10] ∧ WTab (succM us r) ws [] T2 ∧ T2.length ≤ 256
  | 0, T, Q, _, _, _, _, _, _, _, _, h, _ => absurd h (Nat.not_lt_zero _)
  | k + 1, T, Q, e5, e6, e7, e8, e9, e10, d, hh, hk, hz => by
    have cf0 : Cf us.length [] := ⟨List.Pairwise.nil, fun x hx => (by cases hx)⟩
    have hc := dj_count d cf0
    have h28 : 2 ^ us.length ≤ 2 ^ 8 := Nat.pow_le_pow_right (by omega) hu
    have hT : T.length ≤ 256 := by omega
    rw [show k + 1 + n = (k + n) + 1 by omega, loopW_succ]
    have lQ : (Q.map (encI ws)).length = Q.length := List.length_map ..
    cases hQ : Q with
    | nil =>
      refine ⟨T, e5, e6, e7, e8, e9, e10, ?_, ?_, hT⟩
      · have hdec : decide ((0 : Int) > 0) = false := by decide
        simp only [e_nil, e_seq, e_fz, e_bk, e_ct, e_ret, e_retN, e_drop, e_set, e_if, e_for, e_cC, e_c2, e_c1, e_cA, e_aN, e_aC, e_cB, e_asB, e_bNot, e_bAnd, e_bOr, e_vAnd, e_vOr, e_vNot, e_vIf, e_bYes, e_iL, e_iT, e_iLb, e_iR, e_gL1, e_gL2, e_gL3, e_gT, e_gLb1, e_gLb2, e_gLb3, e_gLb4, e_nb1, e_nb2, e_bor1, e_bor2, e_bor3, e_bor4, e_arg1, e_arg2, e_arg3, e_arg4, e_putd, e_puto, e_toD1, e_toD2, e_allD0, e_allD1, e_allD2, e_gTupl, e_gList, e_tgnm, e_tgtp, e_tg0, e_tg1, e_sq1, e_sq2, e_sq3, e_sq4, e_sq5, e_qv2, e_qv3, e_qv4, e_qv5, e_data1, e_data2, e_data3, e_okI, e_okB, e_i2, e_sub, e_mul, e_mod, e_div, e_pow, e_lt, e_le, e_gt, e_ge, e_neg, e_addI, e_addS, e_addT, e_addL1, e_addL2, e_addL3, e_addL4, e_addL5, e_addL6, e_addL7, e_addL8, e_addL9, e_eq, e_ne, e_in, e_notIn, e_inT, e_inT2, e_inL1, e_inL2, e_inL3, e_is, e_isNot, e_isN1, e_isN2, e_isN3, e_isN4, e_isN5, e_isN6, e_isN7, e_ixT, e_ixL, e_ixO, e_ixB, e_ixSc, e_lenT, e_lenL, e_lenO, e_lenB, e_lenSc, e_lenS, e_tupT, e_tupL, e_tupO, e_tupB, e_lisT, e_lisL, e_lisO, e_lisB, e_min2, e_max2, e_any, e_all, e_sum, e_sorted, e_rev, e_sl, e_oN, e_isi, e_lc, e_wipe0, e_wipe1, e_iA, e_iAb, e_gAq1, e_gAq2, e_gAq3, e_gAqb1, e_gAqb2, e_gAqb3, e_gAqb4, e_no, e_cCh, e_cChI, e_aug, e_decT, e_decF, e_cDispS, e_cDT, e_cDK, e_cDisp1, e_storeA, e_stR1, e_stR2, e_stR3, e_sd1, e_keyD1, e_keyD2, e_keyTD, e_intsD, e_intsD0, e_borT, e_borT2, e_borK, e_borK2, e_argT, e_argT2, e_argK, e_argK2, e_nbT, e_nbK, e_putT, e_putK, e_gAt1, e_gAt2, e_gAt3, e_gAt4, e_gGetDK, e_gGetDT, e_gIxD, e_gInD, e_gNotInD, e_cGet1, e_cGet2, e_dk1, e_dk2, e_dk3, e_dk4, e_dt1, e_dt2, e_del, atI_zero, e_at1, e_at2, e_at3, e_at4, e_at5, e_at6, e_at7, e_at8, e_at9, e_atm, e_V, e_retV, e_unp, e_app, e_store, e_fzE, oS, rsO_some, Rs.bind_ok, Rs.bind_no, Rs.out_ok, Out.then_nx, Out.then_rt, Out.then_ct, Out.then_bk, fin_rt, fin_nx, List.getElem?_cons_zero, List.getElem?_cons_succ, List.set_cons_succ, List.set_cons_zero, List.length_cons, List.length_nil, Nat.reduceAdd, Nat.reduceLT, Nat.reduceLeDiff, Nat.reduceEqDiff, if_true, if_false, Bool.false_eq_true, Bool.not_true, Bool.not_false, and_self, true_and, and_true, List.map_cons, List.map_nil, Option.map_some, sh_int, sh_bool, sh_none, sh_tup, sh_lst, eqv_int, reduceIte, Option.bind_some, Option.bind_none, kitB_ll, kitB_lt, kitB_tt, kitB_tl, kitB_ii, tyD_list, tyD_int, Bool.true_and, Bool.false_and, Bool.and_true, Bool.and_false, Bool.or_true, Bool.true_or, Bool.false_or, Bool.or_false, Bool.and_self, Bool.or_self, e_cAK, List.append_nil, List.nil_append, List.cons_append, e_andB, e_orB, e_andR, e_orR, tyD_tuple, eqv_bool, eqv_none, tyD_bool, tyD_str, tyD_none, kitB_bb, kitB_nb, kitB_bi, kitB_ib, kitB_nl, kitB_nt, beq_self_eq_true, List.map_nil, hdec, Int.natCast_zero]
      · rw [hQ] at d
        exact d.tab (pw.succ r)
    | cons q0 qs =>
      rw [← hQ]
      have hne : Q.map (encI ws) ≠ [] := by rw [hQ]; simp
      have hpos : 0 < Q.length := by rw [hQ]; simp
      obtain ⟨a, ys, e1, p1, h1, m1⟩ := hPop_ok data_ord hh hne
      obtain ⟨zs, hzs, pz⟩ := perm_enc p1.symm
      obtain ⟨x, Q', rfl⟩ : ∃ x Q', zs = x :: Q' := by
        cases zs with
        | nil => cases hzs
        | cons x Q' => exact ⟨x, Q', rfl⟩
      rw [List.map_cons] at hzs
      obtain ⟨rfl, rfl⟩ := List.cons.inj hzs
      have l1 : Q.length = Q'.length + 1 := by have := pz.length_eq; rw [List.length_cons] at this; omega
      have mx : x ∈ Q := pz.mem_iff.mp List.mem_cons_self
      have hx := d.path x mx
      have hmin : ∀ y ∈ Q, ¬ KL ws y.1 x.1 := fun y hy kl => by
        have := m1 (encI ws y) (List.mem_map.mpr ⟨y, hy, rfl⟩)
        rw [encI_lt kl] at this
        cases this
      have xl := path_len hx
      have ql := d.qlen x mx
      have hk2 : keyTD (tupD x.2) = some x.2 := intsD_map x.2
      have ei : encI ws x = .tuple [.int (costM ws x.1), .int (x.1.length : Int), tupD x.1, tupD x.2] := rfl
      have al : alkAll (Q.map (encI ws)) = true := encI_all ws Q
      have hdec : decide ((Q.length : Int) > 0) = true := decide_eq_true (by omega)
      have hcond : (cB (c2 gGt (cA gLen (aC (cV 4) aN)) (cC (.int 0)))) [some (.d (encT us ts)), some (.d (.int (r : Int))), some (.d (.list (ws.map .int))), some (.ot (encW ws T)), some (.ol (Q.map (encI ws))), e5, e6, e7, e8, e9, e10] = .ok true := by
        generalize encW ws T = EW at *
        generalize Q.map (encI ws) = QQ at *
        simp only [e_nil, e_seq, e_fz, e_bk, e_ct, e_ret, e_retN, e_drop, e_set, e_if, e_for, e_cC, e_c2, e_c1, e_cA, e_aN, e_aC, e_cB, e_asB, e_bNot, e_bAnd, e_bOr, e_vAnd, e_vOr, e_vNot, e_vIf, e_bYes, e_iL, e_iT, e_iLb, e_iR, e_gL1, e_gL2, e_gL3, e_gT, e_gLb1, e_gLb2, e_gLb3, e_gLb4, e_nb1, e_nb2, e_bor1, e_bor2, e_bor3, e_bor4, e_arg1, e_arg2, e_arg3, e_arg4, e_putd, e_puto, e_toD1, e_toD2, e_allD0, e_allD1, e_allD2, e_gTupl, e_gList, e_tgnm, e_tgtp, e_tg0, e_tg1, e_sq1, e_sq2, e_sq3, e_sq4, e_sq5, e_qv2, e_qv3, e_qv4, e_qv5, e_data1, e_data2, e_data3, e_okI, e_okB, e_i2, e_sub, e_mul, e_mod, e_div, e_pow, e_lt, e_le, e_gt, e_ge, e_neg, e_addI, e_addS, e_addT, e_addL1, e_addL2, e_addL3, e_addL4, e_addL5, e_addL6, e_addL7, e_addL8, e_addL9, e_eq, e_ne, e_in, e_notIn, e_inT, e_inT2, e_inL1, e_inL2, e_inL3, e_is, e_isNot, e_isN1, e_isN2, e_isN3, e_isN4, e_isN5, e_isN6, e_isN7, e_ixT, e_ixL, e_ixO, e_ixB, e_ixSc, e_lenT, e_lenL, e_lenO, e_lenB, e_lenSc, e_lenS, e_tupT, e_tupL, e_tupO, e_tupB, e_lisT, e_lisL, e_lisO, e_lisB, e_min2, e_max2, e_any, e_all, e_sum, e_sorted, e_rev, e_sl, e_oN, e_isi, e_lc, e_wipe0, e_wipe1, e_iA, e_iAb, e_gAq1, e_gAq2, e_gAq3, e_gAqb1, e_gAqb2, e_gAqb3, e_gAqb4, e_no, e_cCh, e_cChI, e_aug, e_decT, e_decF, e_cDispS, e_cDT, e_cDK, e_cDisp1, e_storeA, e_stR1, e_stR2, e_stR3, e_sd1, e_keyD1, e_keyD2, e_keyTD, e_intsD, e_intsD0, e_borT, e_borT2, e_borK, e_borK2, e_argT, e_argT2, e_argK, e_argK2, e_nbT, e_nbK, e_putT, e_putK, e_gAt1, e_gAt2, e_gAt3, e_gAt4, e_gGetDK, e_gGetDT, e_gIxD, e_gInD, e_gNotInD, e_cGet1, e_cGet2, e_dk1, e_dk2, e_dk3, e_dk4, e_dt1, e_dt2, e_del, atI_zero, e_at1, e_at2, e_at3, e_at4, e_at5, e_at6, e_at7, e_at8, e_at9, e_atm, e_V, e_retV, e_unp, e_app, e_store, e_fzE, oS, rsO_some, Rs.bind_ok, Rs.bind_no, Rs.out_ok, Out.then_nx, Out.then_rt, Out.then_ct, Out.then_bk, fin_rt, fin_nx, List.getElem?_cons_zero, List.getElem?_cons_succ, List.set_cons_succ, List.set_cons_zero, List.length_cons, List.length_nil, Nat.reduceAdd, Nat.reduceLT, Nat.reduceLeDiff, Nat.reduceEqDiff, if_true, if_false, Bool.false_eq_true, Bool.not_true, Bool.not_false, and_self, true_and, and_true, List.map_cons, List.map_nil, Option.map_some, sh_int, sh_bool, sh_none, sh_tup, sh_lst, eqv_int, reduceIte, Option.bind_some, Option.bind_none, kitB_ll, kitB_lt, kitB_tt, kitB_tl, kitB_ii, tyD_list, tyD_int, Bool.true_and, Bool.false_and, Bool.and_true, Bool.and_false, Bool.or_true, Bool.true_or, Bool.false_or, Bool.or_false, Bool.and_self, Bool.or_self, e_cAK, List.append_nil, List.nil_append, List.cons_append, e_andB, e_orB, e_andR, e_orR, tyD_tuple, eqv_bool, eqv_none, tyD_bool, tyD_str, tyD_none, kitB_bb, kitB_nb, kitB_bi, kitB_ib, kitB_nl, kitB_nt, beq_self_eq_true, lQ, hdec]
      rw [hcond, Rs.out_ok]
      simp only [if_true]
      cases hx2 : tget T x.2 with
      | some pl =>
        have hd := d.skip pz.symm (by rw [hx2]; rfl)
        have g1 : dGet (encW ws T) x.2 = some (.tuple [.int (costM ws pl), tupD pl]) := by rw [dGet_W, hx2]; rfl
        have hb : L1_cheapest_ways [some (.d (encT us ts)), some (.d (.int (r : Int))), some (.d (.list (ws.map .int))), some (.ot (encW ws T)), some (.ol (Q.map (encI ws))), e5, e6, e7, e8, e9, e10] = .nx [some (.d (encT us ts)), some (.d (.int (r : Int))), some (.d (.list (ws.map .int))), some (.ot (encW ws T)), some (.ol (Q'.map (encI ws))), some (.d (.int (costM ws x.1))), some (.d (.int (x.1.length : Int))), some (.d (tupD x.1)), some (.d (tupD x.2)), e9, e10] := by
          unfold L1_cheapest_ways
          rw [ei] at e1
          generalize encW ws T = EW at *
          generalize Q.map (encI ws) = QQ at *
          generalize Q'.map (encI ws) = QQ' at *
          generalize tupD x.1 = TP at *
          generalize tupD x.2 = TC at *
          simp only [e_nil, e_seq, e_fz, e_bk, e_ct, e_ret, e_retN, e_drop, e_set, e_if, e_for, e_cC, e_c2, e_c1, e_cA, e_aN, e_aC, e_cB, e_asB, e_bNot, e_bAnd, e_bOr, e_vAnd, e_vOr, e_vNot, e_vIf, e_bYes, e_iL, e_iT, e_iLb, e_iR, e_gL1, e_gL2, e_gL3, e_gT, e_gLb1, e_gLb2, e_gLb3, e_gLb4, e_nb1, e_nb2, e_bor1, e_bor2, e_bor3, e_bor4, e_arg1, e_arg2, e_arg3, e_arg4, e_putd, e_puto, e_toD1, e_toD2, e_allD0, e_allD1, e_allD2, e_gTupl, e_gList, e_tgnm, e_tgtp, e_tg0, e_tg1, e_sq1, e_sq2, e_sq3, e_sq4, e_sq5, e_qv2, e_qv3, e_qv4, e_qv5, e_data1, e_data2, e_data3, e_okI, e_okB, e_i2, e_sub, e_mul, e_mod, e_div, e_pow, e_lt, e_le, e_gt, e_ge, e_neg, e_addI, e_addS, e_addT, e_addL1, e_addL2, e_addL3, e_addL4, e_addL5, e_addL6, e_addL7, e_addL8, e_addL9, e_eq, e_ne, e_in, e_notIn, e_inT, e_inT2, e_inL1, e_inL2, e_inL3, e_is, e_isNot, e_isN1, e_isN2, e_isN3, e_isN4, e_isN5, e_isN6, e_isN7, e_ixT, e_ixL, e_ixO, e_ixB, e_ixSc, e_lenT, e_lenL, e_lenO, e_lenB, e_lenSc, e_lenS, e_tupT, e_tupL, e_tupO, e_tupB, e_lisT, e_lisL, e_lisO, e_lisB, e_min2, e_max2, e_any, e_all, e_sum, e_sorted, e_rev, e_sl, e_oN, e_isi, e_lc, e_wipe0, e_wipe1, e_iA, e_iAb, e_gAq1, e_gAq2, e_gAq3, e_gAqb1, e_gAqb2, e_gAqb3, e_gAqb4, e_no, e_cCh, e_cChI, e_aug, e_decT, e_decF, e_cDispS, e_cDT, e_cDK, e_cDisp1, e_storeA, e_stR1, e_stR2, e_stR3, e_sd1, e_keyD1, e_keyD2, e_keyTD, e_intsD, e_intsD0, e_borT, e_borT2, e_borK, e_borK2, e_argT, e_argT2, e_argK, e_argK2, e_nbT, e_nbK, e_putT, e_putK, e_gAt1, e_gAt2, e_gAt3, e_gAt4, e_gGetDK, e_gGetDT, e_gIxD, e_gInD, e_gNotInD, e_cGet1, e_cGet2, e_dk1, e_dk2, e_dk3, e_dk4, e_dt1, e_dt2, e_del, atI_zero, e_at1, e_at2, e_at3, e_at4, e_at5, e_at6, e_at7, e_at8, e_at9, e_atm, e_V, e_retV, e_unp, e_app, e_store, e_fzE, oS, rsO_some, Rs.bind_ok, Rs.bind_no, Rs.out_ok, Out.then_nx, Out.then_rt, Out.then_ct, Out.then_bk, fin_rt, fin_nx, List.getElem?_cons_zero, List.getElem?_cons_succ, List.set_cons_succ, List.set_cons_zero, List.length_cons, List.length_nil, Nat.reduceAdd, Nat.reduceLT, Nat.reduceLeDiff, Nat.reduceEqDiff, if_true, if_false, Bool.false_eq_true, Bool.not_true, Bool.not_false, and_self, true_and, and_true, List.map_cons, List.map_nil, Option.map_some, sh_int, sh_bool, sh_none, sh_tup, sh_lst, eqv_int, reduceIte, Option.bind_some, Option.bind_none, kitB_ll, kitB_lt, kitB_tt, kitB_tl, kitB_ii, tyD_list, tyD_int, Bool.true_and, Bool.false_and, Bool.and_true, Bool.and_false, Bool.or_true, Bool.true_or, Bool.false_or, Bool.or_false, Bool.and_self, Bool.or_self, e_cAK, List.append_nil, List.nil_append, List.cons_append, e_andB, e_orB, e_andR, e_orR, tyD_tuple, eqv_bool, eqv_none, tyD_bool, tyD_str, tyD_none, kitB_bb, kitB_nb, kitB_bi, kitB_ib, kitB_nl, kitB_nt, beq_self_eq_true, e_hpop, al, e1, hk2, g1, Option.isSome_some]
        rw [hb, lp_nx]
        exact ways_while ts r pw hu hr8 n k T Q' _ _ _ _ _ _ hd h1 (by omega) (by omega)
      | none =>
        have g1 : dGet (encW ws T) x.2 = none := by rw [dGet_W, hx2]; rfl
        have hl0 : (List.length ([] : List Int)) = 0 := rfl
        have htr := trans_ok us ts x.2 r (by omega) (by omega)
        have sl := succM_len us r x.2
        have e3 : dPut (encW ws T) x.2 (.tuple [.int (costM ws x.1), tupD x.1]) = encW ws (T ++ [(x.2, x.1)]) := by
          rw [dPut_new _ g1]
          unfold encW
          rw [List.map_append]
          rfl
        obtain ⟨Q2, j9, j10, hin, pQ2, hp2⟩ := push_in pw (some (.d (encT us ts))) (some (.d (.int (r : Int)))) (T ++ [(x.2, x.1)]) x.2 x.1 (by omega) (succM us r x.2) Q' e9 e10 (fun y hy => by
          obtain ⟨h1, _⟩ := succM_mem.mp (show (y.1, y.2) ∈ succM us r x.2 from hy)
          exact ⟨h1.1, by omega⟩) (by omega) h1
        have hd := d.add (pw.succ r) pz.symm hx2 hmin pQ2
        have hc2 := dj_count hd cf0
        have lT : (T ++ [(x.2, x.1)]).length = T.length + 1 := by rw [List.length_append, List.length_singleton]
        have l2 := pQ2.length_eq
        rw [List.length_append] at l2
        have pl := pushes_len (T ++ [(x.2, x.1)]) x.1 (succM us r x.2)
        have lW : (encW ws T).length ≤ 1000000 := by unfold encW; rw [List.length_map]; omega
        have hb : L1_cheapest_ways [some (.d (encT us ts)), some (.d (.int (r : Int))), some (.d (.list (ws.map .int))), some (.ot (encW ws T)), some (.ol (Q.map (encI ws))), e5, e6, e7, e8, e9, e10] = .nx [some (.d (encT us ts)), some (.d (.int (r : Int))), some (.d (.list (ws.map .int))), some (.ot (encW ws (T ++ [(x.2, x.1)]))), some (.ol (Q2.map (encI ws))), some (.d (.int (costM ws x.1))), some (.d (.int (x.1.length : Int))), some (.d (tupD x.1)), some (.d (tupD x.2)), j9, j10] := by
          unfold L1_cheapest_ways
          rw [ei] at e1
          generalize encW ws T = EW at *
          generalize encW ws (T ++ [(x.2, x.1)]) = EW2 at *
          generalize Q.map (encI ws) = QQ at *
          generalize Q'.map (encI ws) = QQ' at *
          generalize Q2.map (encI ws) = QQ2 at *
          generalize tupD x.1 = TP at *
          generalize tupD x.2 = TC at *
          generalize encM (succM us r x.2) = EM at *
          generalize encT us ts = ET at *
          generalize ws.map PyData.int = WS at *
          simp only [e_nil, e_seq, e_fz, e_bk, e_ct, e_ret, e_retN, e_drop, e_set, e_if, e_for, e_cC, e_c2, e_c1, e_cA, e_aN, e_aC, e_cB, e_asB, e_bNot, e_bAnd, e_bOr, e_vAnd, e_vOr, e_vNot, e_vIf, e_bYes, e_iL, e_iT, e_iLb, e_iR, e_gL1, e_gL2, e_gL3, e_gT, e_gLb1, e_gLb2, e_gLb3, e_gLb4, e_nb1, e_nb2, e_bor1, e_bor2, e_bor3, e_bor4, e_arg1, e_arg2, e_arg3, e_arg4, e_putd, e_puto, e_toD1, e_toD2, e_allD0, e_allD1, e_allD2, e_gTupl, e_gList, e_tgnm, e_tgtp, e_tg0, e_tg1, e_sq1, e_sq2, e_sq3, e_sq4, e_sq5, e_qv2, e_qv3, e_qv4, e_qv5, e_data1, e_data2, e_data3, e_okI, e_okB, e_i2, e_sub, e_mul, e_mod, e_div, e_pow, e_lt, e_le, e_gt, e_ge, e_neg, e_addI, e_addS, e_addT, e_addL1, e_addL2, e_addL3, e_addL4, e_addL5, e_addL6, e_addL7, e_addL8, e_addL9, e_eq, e_ne, e_in, e_notIn, e_inT, e_inT2, e_inL1, e_inL2, e_inL3, e_is, e_isNot, e_isN1, e_isN2, e_isN3, e_isN4, e_isN5, e_isN6, e_isN7, e_ixT, e_ixL, e_ixO, e_ixB, e_ixSc, e_lenT, e_lenL, e_lenO, e_lenB, e_lenSc, e_lenS, e_tupT, e_tupL, e_tupO, e_tupB, e_lisT, e_lisL, e_lisO, e_lisB, e_min2, e_max2, e_any, e_all, e_sum, e_sorted, e_rev, e_sl, e_oN, e_isi, e_lc, e_wipe0, e_wipe1, e_iA, e_iAb, e_gAq1, e_gAq2, e_gAq3, e_gAqb1, e_gAqb2, e_gAqb3, e_gAqb4, e_no, e_cCh, e_cChI, e_aug, e_decT, e_decF, e_cDispS, e_cDT, e_cDK, e_cDisp1, e_storeA, e_stR1, e_stR2, e_stR3, e_sd1, e_keyD1, e_keyD2, e_keyTD, e_intsD, e_intsD0, e_borT, e_borT2, e_borK, e_borK2, e_argT, e_argT2, e_argK, e_argK2, e_nbT, e_nbK, e_putT, e_putK, e_gAt1, e_gAt2, e_gAt3, e_gAt4, e_gGetDK, e_gGetDT, e_gIxD, e_gInD, e_gNotInD, e_cGet1, e_cGet2, e_dk1, e_dk2, e_dk3, e_dk4, e_dt1, e_dt2, e_del, atI_zero, e_at1, e_at2, e_at3, e_at4, e_at5, e_at6, e_at7, e_at8, e_at9, e_atm, e_V, e_retV, e_unp, e_app, e_store, e_fzE, oS, rsO_some, Rs.bind_ok, Rs.bind_no, Rs.out_ok, Out.then_nx, Out.then_rt, Out.then_ct, Out.then_bk, fin_rt, fin_nx, List.getElem?_cons_zero, List.getElem?_cons_succ, List.set_cons_succ, List.set_cons_zero, List.length_cons, List.length_nil, Nat.reduceAdd, Nat.reduceLT, Nat.reduceLeDiff, Nat.reduceEqDiff, if_true, if_false, Bool.false_eq_true, Bool.not_true, Bool.not_false, and_self, true_and, and_true, List.map_cons, List.map_nil, Option.map_some, sh_int, sh_bool, sh_none, sh_tup, sh_lst, eqv_int, reduceIte, Option.bind_some, Option.bind_none, kitB_ll, kitB_lt, kitB_tt, kitB_tl, kitB_ii, tyD_list, tyD_int, Bool.true_and, Bool.false_and, Bool.and_true, Bool.and_false, Bool.or_true, Bool.true_or, Bool.false_or, Bool.or_false, Bool.and_self, Bool.or_self, e_cAK, List.append_nil, List.nil_append, List.cons_append, e_andB, e_orB, e_andR, e_orR, tyD_tuple, eqv_bool, eqv_none, tyD_bool, tyD_str, tyD_none, kitB_bb, kitB_nb, kitB_bi, kitB_ib, kitB_nl, kitB_nt, beq_self_eq_true, e_hpop, al, e1, hk2, g1, Option.isSome_none, if_pos lW, e3, htr, e_iA, hin]
        rw [hb, lp_nx]
        refine ways_while ts r pw hu hr8 n k _ Q2 _ _ _ _ _ _ hd hp2 ?_ (by omega)
        have : (256 - T.length) * 8 = (256 - (T.length + 1)) * 8 + 8 := by omega
        omega
/-- the price-least plans -/
theorem ways_ok {us : List (List Int)} {ws : List Int} (ts : List Int) (r : Nat) (pw : PrOk ws us.length) (hu : us.length ≤ 8) (hr8 : r ≤ 800) : ∃ T, F_cheapest_ways [.d (encT us ts), .d (.int (r : Int)), .d (.list (ws.map .int))] = .ok (.ot (encW ws T)) ∧ WTab (succM us r) ws [] T ∧ T.length ≤ 256 := by
  have h0 : IsHp PySem.W.dataLt ([(([] : List Int), ([] : List Int))].map (encI ws)) := fun i x y hi hx _ => by
    have := (List.getElem?_eq_some_iff.mp hx).1
    simp at this
    omega
  obtain ⟨T2, j5, j6, j7, j8, j9, j10, hw, ht, hl⟩ := ways_while (us := us) (ws := ws) ts r pw hu hr8 97900 2100 [] [([], [])] none none none none none none (Dj.first []) h0 (by simp) (by omega)
  refine ⟨T2, ?_, ht, hl⟩
  have e0 : encW ws [] = [] := rfl
  have q0 : [(([] : List Int), ([] : List Int))].map (encI ws) = [.tuple [.int 0, .int 0, .tuple [], .tuple []]] := rfl
  rw [e0, q0] at hw
  have hw : loopW (cB (c2 gGt (cA gLen (aC (cV 4) aN)) (cC (.int 0)))) L1_cheapest_ways 100000 _ = _ := hw
  show (sSeq _ _ [some (.d (encT us ts)), some (.d (.int (r : Int))), some (.d (.list (ws.map .int))), none, none, none, none, none, none, none, none]).fin = _
  generalize encW ws T2 = EW at *
  generalize encT us ts = ET at *
  generalize ws.map PyData.int = WS at *
  simp only [e_nil, e_seq, e_fz, e_bk, e_ct, e_ret, e_retN, e_drop, e_set, e_if, e_for, e_cC, e_c2, e_c1, e_cA, e_aN, e_aC, e_cB, e_asB, e_bNot, e_bAnd, e_bOr, e_vAnd, e_vOr, e_vNot, e_vIf, e_bYes, e_iL, e_iT, e_iLb, e_iR, e_gL1, e_gL2, e_gL3, e_gT, e_gLb1, e_gLb2, e_gLb3, e_gLb4, e_nb1, e_nb2, e_bor1, e_bor2, e_bor3, e_bor4, e_arg1, e_arg2, e_arg3, e_arg4, e_putd, e_puto, e_toD1, e_toD2, e_allD0, e_allD1, e_allD2, e_gTupl, e_gList, e_tgnm, e_tgtp, e_tg0, e_tg1, e_sq1, e_sq2, e_sq3, e_sq4, e_sq5, e_qv2, e_qv3, e_qv4, e_qv5, e_data1, e_data2, e_data3, e_okI, e_okB, e_i2, e_sub, e_mul, e_mod, e_div, e_pow, e_lt, e_le, e_gt, e_ge, e_neg, e_addI, e_addS, e_addT, e_addL1, e_addL2, e_addL3, e_addL4, e_addL5, e_addL6, e_addL7, e_addL8, e_addL9, e_eq, e_ne, e_in, e_notIn, e_inT, e_inT2, e_inL1, e_inL2, e_inL3, e_is, e_isNot, e_isN1, e_isN2, e_isN3, e_isN4, e_isN5, e_isN6, e_isN7, e_ixT, e_ixL, e_ixO, e_ixB, e_ixSc, e_lenT, e_lenL, e_lenO, e_lenB, e_lenSc, e_lenS, e_tupT, e_tupL, e_tupO, e_tupB, e_lisT, e_lisL, e_lisO, e_lisB, e_min2, e_max2, e_any, e_all, e_sum, e_sorted, e_rev, e_sl, e_oN, e_isi, e_lc, e_wipe0, e_wipe1, e_iA, e_iAb, e_gAq1, e_gAq2, e_gAq3, e_gAqb1, e_gAqb2, e_gAqb3, e_gAqb4, e_no, e_cCh, e_cChI, e_aug, e_decT, e_decF, e_cDispS, e_cDT, e_cDK, e_cDisp1, e_storeA, e_stR1, e_stR2, e_stR3, e_sd1, e_keyD1, e_keyD2, e_keyTD, e_intsD, e_intsD0, e_borT, e_borT2, e_borK, e_borK2, e_argT, e_argT2, e_argK, e_argK2, e_nbT, e_nbK, e_putT, e_putK, e_gAt1, e_gAt2, e_gAt3, e_gAt4, e_gGetDK, e_gGetDT, e_gIxD, e_gInD, e_gNotInD, e_cGet1, e_cGet2, e_dk1, e_dk2, e_dk3, e_dk4, e_dt1, e_dt2, e_del, atI_zero, e_at1, e_at2, e_at3, e_at4, e_at5, e_at6, e_at7, e_at8, e_at9, e_atm, e_V, e_retV, e_unp, e_app, e_store, e_fzE, oS, rsO_some, Rs.bind_ok, Rs.bind_no, Rs.out_ok, Out.then_nx, Out.then_rt, Out.then_ct, Out.then_bk, fin_rt, fin_nx, List.getElem?_cons_zero, List.getElem?_cons_succ, List.set_cons_succ, List.set_cons_zero, List.length_cons, List.length_nil, Nat.reduceAdd, Nat.reduceLT, Nat.reduceLeDiff, Nat.reduceEqDiff, if_true, if_false, Bool.false_eq_true, Bool.not_true, Bool.not_false, and_self, true_and, and_true, List.map_cons, List.map_nil, Option.map_some, sh_int, sh_bool, sh_none, sh_tup, sh_lst, eqv_int, reduceIte, Option.bind_some, Option.bind_none, kitB_ll, kitB_lt, kitB_tt, kitB_tl, kitB_ii, tyD_list, tyD_int, Bool.true_and, Bool.false_and, Bool.and_true, Bool.and_false, Bool.or_true, Bool.true_or, Bool.false_or, Bool.or_false, Bool.and_self, Bool.or_self, e_cAK, List.append_nil, List.nil_append, List.cons_append, e_andB, e_orB, e_andR, e_orR, tyD_tuple, eqv_bool, eqv_none, tyD_bool, tyD_str, tyD_none, kitB_bb, kitB_nb, kitB_bi, kitB_ib, kitB_nl, kitB_nt, beq_self_eq_true, e_while, hw]
theorem WTab.get {succ : List Int → List (Int × List Int)} {ws c0 : List Int} {T T' : List (List Int × List Int)} (h : WTab succ ws c0 T) (k : WTab succ ws c0 T') (c : List Int) : tget T c = tget T' c := by
  cases e : tget T c with
  | some p =>
    have := k.all _ _ (h.best c p e).path
    cases e2 : tget T' c with
    | none => rw [e2] at this; cases this
    | some q => rw [(h.best c p e).uniq (k.best c q e2)]
  | none =>
    cases e2 : tget T' c with
    | none => rfl
    | some q =>
      have := h.all _ _ (k.best c q e2).path
      rw [e] at this; cases this
/-! ### tables of prices by correcting labels -/
def Lt2 (a b : Int × Int) : Prop := a.1 < b.1 ∨ (a.1 = b.1 ∧ a.2 < b.2)
def Le2 (a b : Int × Int) : Prop := a.1 < b.1 ∨ (a.1 = b.1 ∧ a.2 ≤ b.2)
instance (a b : Int × Int) : Decidable (Lt2 a b) := inferInstanceAs (Decidable (_ ∨ _))
theorem Le2.refl (a : Int × Int) : Le2 a a := .inr ⟨rfl, Int.le_refl _⟩
theorem Le2.trans {a b c : Int × Int} (h : Le2 a b) (k : Le2 b c) : Le2 a c := by unfold Le2 at *; omega
theorem Le2.of {a b : Int × Int} (h : ¬ Lt2 a b) : Le2 b a := by unfold Le2 Lt2 at *; omega
theorem Le2.lt {a b : Int × Int} (h : Lt2 a b) : Le2 a b := by unfold Le2 Lt2 at *; omega
theorem Le2.anti {a b : Int × Int} (h : Le2 a b) (k : Le2 b a) : a = b := by
  unfold Le2 at *
  have : a.1 = b.1 ∧ a.2 = b.2 := by omega
  exact Prod.ext this.1 this.2
theorem Le2.step {a b : Int × Int} (h : Le2 a b) (x : Int) : Le2 (a.1 + x, a.2 + 1) (b.1 + x, b.2 + 1) := by unfold Le2 at *; simp only; omega
section
variable {C : Type} [DecidableEq C]
abbrev Lab (C : Type) := C → Option (Int × Int)
def putL (lab : Lab C) (c : C) (x : Int × Int) : Lab C := fun d => if d = c then some x else lab d
theorem putL_same (lab : Lab C) (c : C) (x : Int × Int) : putL lab c x c = some x := if_pos rfl
theorem putL_ne (lab : Lab C) {c d : C} (x : Int × Int) (h : d ≠ c) : putL lab c x d = lab d := if_neg h
def better (lab : Lab C) (d : C) (x : Int × Int) : Bool := match lab d with
  | none => true
  | some y => decide (Lt2 x y)
def pc (ws p : List Int) : Int × Int := (costM ws p, (p.length : Int))
theorem pc_snoc (ws p : List Int) (l : Int) : pc ws (p ++ [l]) = ((pc ws p).1 + wM ws l, (pc ws p).2 + 1) := by
  unfold pc
  rw [cost_snoc, List.length_append, List.length_singleton]
  congr 1
theorem KL.le2 {ws p q : List Int} (h : q = p ∨ KL ws p q) : Le2 (pc ws p) (pc ws q) := by
  rcases h with rfl | h | ⟨h, k⟩
  · exact Le2.refl _
  · exact .inl h
  · refine .inr ⟨h, ?_⟩
    have := SL.len (.inr k)
    show (p.length : Int) ≤ (q.length : Int)
    omega
variable (succ : C → List (Int × C)) (ws : List Int) (c0 : C) (par : C → Bool)
def Snd (lab : Lab C) : Prop := ∀ c x, lab c = some x → ∃ p, Path succ c0 p c ∧ pc ws p = x
def Rel (lab : Lab C) (u : C) (x : Int × Int) : Prop := ∀ e ∈ succ u, ∃ y, lab e.2 = some y ∧ Le2 y (x.1 + wM ws e.1, x.2 + 1)
structure Ph (k : Nat) (lab : Lab C) (cur : List C) : Prop where
  sound : Snd succ ws c0 lab
  cr : ∀ c ∈ cur, ∃ P, lab c = some (P, (k : Int))
  rel : ∀ u x, u ∉ cur → lab u = some x → Rel succ ws lab u x
  done : ∀ q c, Path succ c0 q c → q.length ≤ k → ∃ x, lab c = some x ∧ Le2 x (pc ws q)
structure In (M k : Nat) (lab0 : Lab C) (dn : List C) (lab : Lab C) (nxt : List C) : Prop where
  sound : Snd succ ws c0 lab
  keep : ∀ c, (par c = par c0 ↔ k % 2 = 0) → lab c = lab0 c
  low : ∀ c x, lab0 c = some x → ∃ y, lab c = some y ∧ Le2 y x
  chg : ∀ c, c ∉ nxt → lab c = lab0 c
  nx : ∀ c ∈ nxt, ∃ P, lab c = some (P, ((k + 1 : Nat) : Int))
  rel : ∀ u ∈ dn, ∀ x, lab0 u = some x → Rel succ ws lab u x
  cnt : ∃ dd : List C, dd.Nodup ∧ (∀ u, u ∈ dd ↔ u ∈ dn) ∧ nxt.length ≤ M * dd.length
variable {succ ws c0 par}
theorem path_par (hpar : ∀ p c e, Path succ c0 p c → e ∈ succ c → par e.2 ≠ par c) {p : List Int} {c : C} (h : Path succ c0 p c) : par c = par c0 ↔ p.length % 2 = 0 := by
  induction h with
  | nil => simp
  | @snoc p c d l hp hs ih =>
    have := hpar _ _ _ hp hs
    rw [List.length_append, List.length_singleton]
    simp only at this
    have bb : ∀ a b z : Bool, a ≠ b → (a = z ↔ ¬ b = z) := by decide
    rw [bb _ _ _ this, ih]
    omega
theorem Rel.mono {lab lab' : Lab C} {u : C} {x : Int × Int} (h : Rel succ ws lab u x) (low : ∀ c y, lab c = some y → ∃ z, lab' c = some z ∧ Le2 z y) : Rel succ ws lab' u x := fun e he => by
  obtain ⟨y, h1, h2⟩ := h e he
  obtain ⟨z, h3, h4⟩ := low _ _ h1
  exact ⟨z, h3, h4.trans h2⟩
theorem In.next {M k : Nat} {lab0 lab : Lab C} {cur nxt : List C} (p : Ph succ ws c0 k lab0 cur) (i : In succ ws c0 par M k lab0 cur lab nxt) : Ph succ ws c0 (k + 1) lab nxt := by
  have relx : ∀ u x, lab0 u = some x → Rel succ ws lab u x := fun u x hx => by
    by_cases c : u ∈ cur
    · exact i.rel u c x hx
    · exact (p.rel u x c hx).mono i.low
  refine ⟨i.sound, fun c hc => i.nx c hc, fun u x hu hx => ?_, fun q c hq hl => ?_⟩
  · rw [i.chg u hu] at hx
    exact relx u x hx
  · by_cases h : q.length ≤ k
    · obtain ⟨x, h1, h2⟩ := p.done q c hq h
      obtain ⟨y, h3, h4⟩ := i.low _ _ h1
      exact ⟨y, h3, h4.trans h2⟩
    · cases hq with
      | nil => simp at h
      | @snoc q' u _ l hp hs =>
        rw [List.length_append, List.length_singleton] at hl h
        obtain ⟨x, h1, h2⟩ := p.done q' u hp (by omega)
        obtain ⟨y, h3, h4⟩ := relx u x h1 _ hs
        refine ⟨y, h3, ?_⟩
        rw [pc_snoc]
        exact h4.trans (h2.step _)
theorem In.first {M k : Nat} {lab0 : Lab C} {cur : List C} (p : Ph succ ws c0 k lab0 cur) : In succ ws c0 par M k lab0 [] lab0 [] :=
  ⟨p.sound, fun _ _ => rfl, fun c x h => ⟨x, h, Le2.refl _⟩, fun _ _ => rfl, fun c hc => (by cases hc), fun u hu => (by cases hu), ⟨[], List.nodup_nil, fun u => Iff.rfl, Nat.zero_le _⟩⟩
theorem Ph.stop {K k : Nat} {lab : Lab C} {cur : List C} (p : Ph succ ws c0 k lab cur) (hK : ∀ q c, Path succ c0 q c → ∃ b, Path succ c0 b c ∧ Le2 (pc ws b) (pc ws q) ∧ b.length ≤ K) (h : cur ≠ []) : k ≤ K := by
  obtain ⟨c, hc⟩ := List.exists_mem_of_ne_nil _ h
  obtain ⟨P, hP⟩ := p.cr c hc
  obtain ⟨q, hq, e⟩ := p.sound _ _ hP
  obtain ⟨b, hb, h1, h2⟩ := hK q c hq
  by_cases hk : k ≤ K
  · exact hk
  · obtain ⟨x, h3, h4⟩ := p.done b c hb (by omega)
    rw [hP] at h3
    cases h3
    rw [e] at h1
    have := Le2.anti h1 h4
    have : (b.length : Int) = (k : Int) := congrArg Prod.snd this
    omega
theorem Ph.final {k : Nat} {lab : Lab C} (p : Ph succ ws c0 k lab []) {q : List Int} {c : C} (hq : Path succ c0 q c) : ∃ x, lab c = some x ∧ Le2 x (pc ws q) := by
  induction hq with
  | nil => exact p.done [] c0 .nil (Nat.zero_le _)
  | @snoc q c d l hp hs ih =>
    obtain ⟨x, h1, h2⟩ := ih
    obtain ⟨y, h3, h4⟩ := p.rel c x (by simp) h1 _ hs
    refine ⟨y, h3, ?_⟩
    rw [pc_snoc]
    exact h4.trans (h2.step _)
theorem Ph.first : Ph succ ws c0 0 (putL (fun _ => none) c0 (0, 0)) [c0] := by
  refine ⟨fun c x h => ?_, fun c hc => ?_, fun u x hu hx => ?_, fun q c hq hl => ?_⟩
  · by_cases e : c = c0
    · subst e
      rw [putL_same] at h
      cases h
      exact ⟨[], .nil, rfl⟩
    · rw [putL_ne _ _ e] at h; cases h
  · rw [List.mem_singleton.mp hc]
    exact ⟨0, putL_same _ _ _⟩
  · rw [putL_ne _ _ (fun z => hu (by rw [z]; exact List.mem_singleton.mpr rfl))] at hx
    cases hx
  · cases hq with
    | nil => exact ⟨(0, 0), putL_same _ _ _, Le2.refl _⟩
    | snoc hp hs => simp at hl
/-- while one configuration is gone through: what stands when the first of its moves have been tried -/
structure Go (M k : Nat) (lab0 : Lab C) (dn : List C) (c : C) (x : Int × Int) (tried : List (Int × C)) (new : Bool) (lab : Lab C) (nxt : List C) : Prop where
  sound : Snd succ ws c0 lab
  keep : ∀ c, (par c = par c0 ↔ k % 2 = 0) → lab c = lab0 c
  low : ∀ c x, lab0 c = some x → ∃ y, lab c = some y ∧ Le2 y x
  chg : ∀ c, c ∉ nxt → lab c = lab0 c
  nx : ∀ c ∈ nxt, ∃ P, lab c = some (P, ((k + 1 : Nat) : Int))
  rel : ∀ u ∈ dn, ∀ x, lab0 u = some x → Rel succ ws lab u x
  cnt : ∃ dd : List C, dd.Nodup ∧ (∀ u, u ∈ dd ↔ u ∈ dn) ∧ nxt.length ≤ M * dd.length + (if new = true then tried.length else 0)
  rel2 : ∀ e ∈ tried, ∃ y, lab e.2 = some y ∧ Le2 y (x.1 + wM ws e.1, x.2 + 1)
theorem Go.step {M k : Nat} {lab0 lab : Lab C} {dn nxt : List C} {c : C} {x : Int × Int} {tried : List (Int × C)} {new : Bool} (hn : new = true ↔ c ∉ dn) (hpar : ∀ p c e, Path succ c0 p c → e ∈ succ c → par e.2 ≠ par c) (s0 : Snd succ ws c0 lab0) (hx : lab0 c = some x) (hk : x.2 = (k : Int)) {e : Int × C} (he : e ∈ succ c)
    (g : Go (succ := succ) (ws := ws) (c0 := c0) (par := par) M k lab0 dn c x tried new lab nxt) :
    lab c = some x ∧ e.2 ≠ c ∧ if better lab e.2 (x.1 + wM ws e.1, x.2 + 1) = true then Go (succ := succ) (ws := ws) (c0 := c0) (par := par) M k lab0 dn c x (tried ++ [e]) new (putL lab e.2 (x.1 + wM ws e.1, x.2 + 1)) (nxt ++ [e.2])
      else Go (succ := succ) (ws := ws) (c0 := c0) (par := par) M k lab0 dn c x (tried ++ [e]) new lab nxt := by
  obtain ⟨p, hp, hpc⟩ := s0 c x hx
  have pl : p.length = k := by
    have : (p.length : Int) = x.2 := congrArg Prod.snd hpc
    omega
  have pp := path_par hpar hp
  rw [pl] at pp
  have hne := hpar p c e hp he
  have bb : ∀ a b z : Bool, a ≠ b → (a = z ↔ ¬ b = z) := by decide
  have pd : ¬ (par e.2 = par c0 ↔ k % 2 = 0) := by
    rw [bb _ _ _ hne, pp]
    omega
  have lc : lab c = some x := by rw [g.keep c pp, hx]
  refine ⟨lc, fun z => hne (by rw [z]), ?_⟩
  obtain ⟨dd, nd, md, cn⟩ := g.cnt
  by_cases hb : better lab e.2 (x.1 + wM ws e.1, x.2 + 1) = true
  · rw [if_pos hb]
    have lowx : ∀ c' y, lab c' = some y → ∃ z, putL lab e.2 (x.1 + wM ws e.1, x.2 + 1) c' = some z ∧ Le2 z y := fun c' y hy => by
      by_cases q : c' = e.2
      · subst q
        refine ⟨_, putL_same _ _ _, ?_⟩
        unfold better at hb
        rw [hy] at hb
        exact Le2.lt (of_decide_eq_true hb)
      · exact ⟨y, by rw [putL_ne _ _ q]; exact hy, Le2.refl _⟩
    have cnew : c ∉ dn := fun h => by
      obtain ⟨y, h1, h2⟩ := g.rel c h x hx e he
      unfold better at hb
      rw [h1] at hb
      have := of_decide_eq_true hb
      unfold Le2 Lt2 at *
      simp only at *
      omega
    refine ⟨fun c' y hy => ?_, fun c' hc' => ?_, fun c' y hy => ?_, fun c' hc' => ?_, fun c' hc' => ?_, fun u hu y hy => (g.rel u hu y hy).mono lowx, ⟨dd, nd, md, ?_⟩, fun e' he' => ?_⟩
    · by_cases q : c' = e.2
      · subst q
        rw [putL_same] at hy
        cases hy
        exact ⟨p ++ [e.1], .snoc hp he, by rw [pc_snoc, hpc]⟩
      · rw [putL_ne _ _ q] at hy
        exact g.sound c' y hy
    · rw [putL_ne _ _ (fun z => pd (by rw [← z]; exact hc'))]
      exact g.keep c' hc'
    · obtain ⟨z, h1, h2⟩ := g.low c' y hy
      obtain ⟨z', h3, h4⟩ := lowx c' z h1
      exact ⟨z', h3, h4.trans h2⟩
    · rw [List.mem_append, List.mem_singleton, not_or] at hc'
      rw [putL_ne _ _ hc'.2]
      exact g.chg c' hc'.1
    · by_cases q : c' = e.2
      · subst q
        exact ⟨x.1 + wM ws e.1, by rw [putL_same, hk]; rfl⟩
      · rw [putL_ne _ _ q]
        rcases List.mem_append.mp hc' with h | h
        · exact g.nx c' h
        · exact absurd (List.mem_singleton.mp h) q
    · rw [hn.mpr cnew] at cn ⊢
      simp only [if_true] at cn ⊢
      simp only [List.length_append, List.length_singleton]
      omega
    · rcases List.mem_append.mp he' with h | h
      · obtain ⟨y, h1, h2⟩ := g.rel2 e' h
        obtain ⟨z, h3, h4⟩ := lowx _ _ h1
        exact ⟨z, h3, h4.trans h2⟩
      · rw [List.mem_singleton.mp h]
        exact ⟨_, putL_same _ _ _, Le2.refl _⟩
  · rw [if_neg hb]
    refine ⟨g.sound, g.keep, g.low, g.chg, g.nx, g.rel, ⟨dd, nd, md, ?_⟩, fun e' he' => ?_⟩
    · rw [List.length_append, List.length_singleton]
      split <;> rename_i h
      · rw [h] at cn; simp only [if_true] at cn; omega
      · simp only [h] at cn; simpa using cn
    · rcases List.mem_append.mp he' with h | h
      · exact g.rel2 e' h
      · rw [List.mem_singleton.mp h]
        unfold better at hb
        cases hl : lab e.2 with
        | none => rw [hl] at hb; exact absurd rfl hb
        | some y =>
          rw [hl] at hb
          exact ⟨y, rfl, Le2.of fun z => hb (decide_eq_true z)⟩
theorem Go.start {M k : Nat} {lab0 lab : Lab C} {dn nxt : List C} (c : C) (x : Int × Int) (new : Bool) (i : In succ ws c0 par M k lab0 dn lab nxt) : Go (succ := succ) (ws := ws) (c0 := c0) (par := par) M k lab0 dn c x [] new lab nxt := by
  obtain ⟨dd, nd, md, cn⟩ := i.cnt
  exact ⟨i.sound, i.keep, i.low, i.chg, i.nx, i.rel, ⟨dd, nd, md, Nat.le_add_right_of_le cn⟩, fun e he => (by cases he)⟩
theorem Go.fin {M k : Nat} {lab0 lab : Lab C} {dn nxt : List C} {c : C} {x : Int × Int} {new : Bool} (hn : new = true ↔ c ∉ dn) (hM : (succ c).length ≤ M) (hx : lab0 c = some x) (g : Go (succ := succ) (ws := ws) (c0 := c0) (par := par) M k lab0 dn c x (succ c) new lab nxt) : In succ ws c0 par M k lab0 (dn ++ [c]) lab nxt := by
  obtain ⟨dd, nd, md, cn⟩ := g.cnt
  refine ⟨g.sound, g.keep, g.low, g.chg, g.nx, fun u hu y hy => ?_, ?_⟩
  · rcases List.mem_append.mp hu with h | h
    · exact g.rel u h y hy
    · rw [List.mem_singleton.mp h] at hy ⊢
      rw [hx] at hy
      cases hy
      exact g.rel2
  · by_cases h : c ∈ dn
    · have hf : new = false := by
        cases new with
        | false => rfl
        | true => exact absurd h (hn.mp rfl)
      rw [hf] at cn
      refine ⟨dd, nd, fun u => ?_, by simpa using cn⟩
      rw [md u, List.mem_append, List.mem_singleton]
      exact ⟨.inl, fun z => z.elim id fun z => by rw [z]; exact h⟩
    · rw [hn.mpr h] at cn
      refine ⟨c :: dd, List.nodup_cons.mpr ⟨fun z => h ((md c).mp z), nd⟩, fun u => ?_, ?_⟩
      · rw [List.mem_cons, md u, List.mem_append, List.mem_singleton]
        exact or_comm
      · simp only [if_true] at cn
        rw [List.length_cons, Nat.mul_succ]
        omega
/-- what a table of prices is in the end -/
def LTab (T : List (C × List Int)) (lab : Lab C) : Prop := ∀ c, lab c = (tget T c).map (pc ws)
theorem Ph.tab {k : Nat} {lab : Lab C} {T : List (C × List Int)} (p : Ph succ ws c0 k lab []) (t : WTab succ ws c0 T) : LTab (ws := ws) T lab := by
  intro c
  cases e : tget T c with
  | none =>
    cases hl : lab c with
    | none => rfl
    | some x =>
      obtain ⟨q, hq, _⟩ := p.sound c x hl
      have := t.all q c hq
      rw [e] at this; cases this
  | some b =>
    have hb := t.best c b e
    obtain ⟨x, h1, h2⟩ := p.final hb.path
    obtain ⟨q, hq, hpc⟩ := p.sound c x h1
    have h3 := KL.le2 (hb.least q hq)
    rw [hpc] at h3
    rw [h1, Le2.anti h2 h3]
    rfl
end
/-! the tables are there -/
section
variable {C : Type} [DecidableEq C] {succ : C → List (Int × C)} {ws : List Int}
theorem least_in (Q : List (List Int × C)) (h : Q ≠ []) : ∃ x ∈ Q, ∀ y ∈ Q, ¬ KL ws y.1 x.1 := by
  induction Q with
  | nil => exact absurd rfl h
  | cons a Q ih =>
    by_cases c : Q = []
    · subst c
      refine ⟨a, List.mem_cons_self, fun y hy k => ?_⟩
      rw [List.mem_singleton.mp hy] at k
      exact k.irr
    · obtain ⟨x, hx, hm⟩ := ih c
      by_cases l : KL ws a.1 x.1
      · refine ⟨a, List.mem_cons_self, fun y hy k => ?_⟩
        rcases List.mem_cons.mp hy with rfl | hy
        · exact k.irr
        · exact hm y hy (k.trans l)
      · refine ⟨x, List.mem_cons_of_mem _ hx, fun y hy k => ?_⟩
        rcases List.mem_cons.mp hy with rfl | hy
        · exact l k
        · exact hm y hy k
theorem dj_run {c0 : C} (hw : ∀ c x, x ∈ succ c → 0 < wM ws x.1) (N M : Nat) (hM : ∀ c, (succ c).length ≤ M) (hN : ∀ T Q, Dj succ ws c0 T Q → T.length ≤ N) : ∀ (k : Nat) (T : List (C × List Int)) (Q : List (List Int × C)), Dj succ ws c0 T Q → Q.length + (N - T.length) * M < k → ∃ T2, WTab succ ws c0 T2 ∧ T2.length ≤ N
  | 0, _, _, _, h => absurd h (Nat.not_lt_zero _)
  | k + 1, T, Q, d, h => by
    by_cases c : Q = []
    · subst c
      exact ⟨T, d.tab hw, hN _ _ d⟩
    · obtain ⟨x, hx, hm⟩ := least_in (ws := ws) Q c
      obtain ⟨a, b, rfl⟩ := List.append_of_mem hx
      have pm : (a ++ x :: b).Perm (x :: (a ++ b)) := List.perm_middle
      have lm := pm.length_eq
      rw [List.length_cons] at lm
      cases e : tget T x.2 with
      | some p => exact dj_run hw N M hM hN k T (a ++ b) (d.skip pm (by rw [e]; rfl)) (by omega)
      | none =>
        have d2 := d.add hw pm e hm (List.Perm.refl _)
        have h2 := hN _ _ d2
        rw [List.length_append, List.length_singleton] at h2
        refine dj_run hw N M hM hN k _ _ d2 ?_
        have l1 : (pushes (T ++ [(x.2, x.1)]) x.1 (succ x.2)).length ≤ M := by
          refine Nat.le_trans ?_ (hM x.2)
          unfold pushes
          rw [List.length_map]
          exact List.length_filter_le _ _
        simp only [List.length_append, List.length_cons, List.length_nil, Nat.zero_add] at h lm ⊢
        have : (N - T.length) * M = (N - (T.length + 1)) * M + M := by
          rw [← Nat.succ_mul]
          congr 1
          omega
        omega
end
theorem wtab_ex {us : List (List Int)} {ws : List Int} (r : Nat) (pw : PrOk ws us.length) {c0 : List Int} (h0 : Cf us.length c0) : ∃ T, WTab (succM us r) ws c0 T ∧ T.length ≤ 2 ^ us.length :=
  dj_run (pw.succ r) (2 ^ us.length) us.length (succM_len us r) (fun T Q d => dj_count d h0) (1 + (2 ^ us.length) * us.length + 1) [] [([], c0)] (Dj.first c0) (by simp)
/-! ### _law_costs, walked -/
section
open PySem.W PySem.SeqAt
def encL (x : Int × Int) : PyData := .tuple [.int x.1, .int x.2]
theorem encL_lt (a b : Int × Int) : dataLt (encL a) (encL b) = decide (Lt2 a b) := by
  show PyProof.Rows.lexLt itemOrd (Sum.inl 1 :: Sum.inl a.1 :: Sum.inl 1 :: Sum.inl a.2 :: [Sum.inl 0]) (Sum.inl 1 :: Sum.inl b.1 :: Sum.inl 1 :: Sum.inl b.2 :: [Sum.inl 0]) = _
  rw [lex_self (O := itemOrd)]
  by_cases h : a.1 = b.1
  · rw [h, lex_self (O := itemOrd), lex_self (O := itemOrd)]
    by_cases h2 : a.2 = b.2
    · rw [h2, lex_self (O := itemOrd), lex_self (O := itemOrd)]
      refine (decide_eq_false ?_).symm
      unfold Lt2
      omega
    · rw [lex_diff (O := itemOrd) (itm_ne h2)]
      show decide (a.2 < b.2) = _
      refine decide_eq_decide.mpr ?_
      unfold Lt2
      omega
  · rw [lex_diff (O := itemOrd) (itm_ne h)]
    show decide (a.1 < b.1) = _
    refine decide_eq_decide.mpr ?_
    unfold Lt2
    omega
theorem encL_alike (a b : Int × Int) : alike (encL a) (encL b) = true := rfl
theorem encL_ok (a : Int × Int) : hqOk (encL a) = true := by
  unfold hqOk encL
  simp [PyData.depth, PyData.depthAll]
end
theorem dGet_key (kvs : List (List Int × PyData)) (k : List Int) : k ∈ kvs.map (·.1) ↔ (dGet kvs k).isSome = true := by
  rw [← dGet_any, List.any_eq_true, List.mem_map]
  constructor
  · rintro ⟨e, he, rfl⟩
    exact ⟨e, he, decide_eq_true rfl⟩
  · rintro ⟨e, he, h⟩
    exact ⟨e, he, of_decide_eq_true h⟩
structure Rep (n : Nat) (kvs : List (List Int × PyData)) (lab : Lab (List Int)) : Prop where
  get : ∀ c, dGet kvs c = (lab c).map encL
  nd : (kvs.map (·.1)).Nodup
  cf : ∀ e ∈ kvs, Cf n e.1
theorem Rep.len {n : Nat} {kvs : List (List Int × PyData)} {lab : Lab (List Int)} (h : Rep n kvs lab) (hn : n ≤ 8) : kvs.length ≤ 256 := by
  have := cf_count n (kvs.map (·.1)) h.nd fun c hc => by
    obtain ⟨e, he, rfl⟩ := List.mem_map.mp hc
    exact h.cf e he
  rw [List.length_map] at this
  have h28 : 2 ^ n ≤ 2 ^ 8 := Nat.pow_le_pow_right (by omega) hn
  omega
theorem Rep.put {n : Nat} {kvs : List (List Int × PyData)} {lab : Lab (List Int)} (h : Rep n kvs lab) {d : List Int} (hd : Cf n d) (x : Int × Int) : Rep n (dPut kvs d (encL x)) (putL lab d x) := by
  refine ⟨fun c => ?_, ?_, fun e he => ?_⟩
  · rw [dGet_put]
    by_cases z : c = d
    · rw [if_pos z, z, putL_same]; rfl
    · rw [if_neg z, putL_ne _ _ z]; exact h.get c
  · cases e : dGet kvs d with
    | some y => rw [dPut_keys_old _ (by rw [e]; rfl)]; exact h.nd
    | none =>
      rw [dPut_new _ e, List.map_append, List.nodup_append]
      refine ⟨h.nd, by simp, fun a ha b hb => ?_⟩
      simp at hb
      subst hb
      intro z
      subst z
      have := (dGet_key kvs a).mp ha
      rw [e] at this
      cases this
  · have : e.1 ∈ (dPut kvs d (encL x)).map (·.1) := List.mem_map.mpr ⟨e, he, rfl⟩
    cases e2 : dGet kvs d with
    | some y =>
      rw [dPut_keys_old _ (by rw [e2]; rfl)] at this
      obtain ⟨f, hf, z⟩ := List.mem_map.mp this
      rw [← z]; exact h.cf f hf
    | none =>
      rw [dPut_new _ e2, List.map_append] at this
      rcases List.mem_append.mp this with k | k
      · obtain ⟨f, hf, z⟩ := List.mem_map.mp k
        rw [← z]; exact h.cf f hf
      · simp at k
        rw [k]; exact hd
def parI (c : List Int) : Bool := decide (c.length % 2 = 1)
theorem movM_par {us : List (List Int)} {r : Nat} {c : List Int} (hc : Up c) : ∀ e, e ∈ succM us r c → parI e.2 ≠ parI c := by
  intro e he
  obtain ⟨_, h⟩ := succM_mem.mp (show (e.1, e.2) ∈ succM us r c from he)
  have key : (movM c e.1).length + 1 = c.length ∨ (movM c e.1).length = c.length + 1 := by
    unfold movM
    split
    · rename_i hm
      left
      have nd : c.Nodup := hc.imp fun h => by omega
      have : (c.filter fun x => decide (x ≠ e.1)) = c.erase e.1 := by
        rw [List.Nodup.erase_eq_filter nd]
        congr 1
        funext x
        show decide (x ≠ e.1) = !(x == e.1)
        by_cases q : x = e.1 <;> simp [q]
      rw [this, List.length_erase_of_mem hm]
      have := List.length_pos_of_mem hm
      omega
    · right
      rw [(isort_perm _).length_eq]; simp
  rw [h]
  unfold parI
  intro z
  have := decide_eq_decide.mp z
  omega
theorem par_path {us : List (List Int)} {r : Nat} {c0 : List Int} (h0 : Cf us.length c0) : ∀ p c e, Path (succM us r) c0 p c → e ∈ succM us r c → parI e.2 ≠ parI c := fun p c e hp he => movM_par (h0.path hp).1 e he
/-- what has been tried of the moves -/
def triedM (us : List (List Int)) (r : Nat) (c : List Int) (ms : List Nat) : List (Int × List Int) := (ms.filter (okM us r c)).map fun m : Nat => ((m : Int), movM c m)
theorem costs_in {us : List (List Int)} {ws : List Int} {r : Nat} {c0 : List Int} {g : PyData} (pw : PrOk ws us.length) (hu : us.length ≤ 8) (hul : ∀ u ∈ us, u.length ≤ 1000) (hc0 : Cf us.length c0) {k : Nat} {lab0 : Lab (List Int)} (s0 : Snd (succM us r) ws c0 lab0) {dn : List (List Int)} {c : List Int} {new : Bool} (hn : new = true ↔ c ∉ dn) {x : Int × Int} (hx : lab0 c = some x) (hk : x.2 = (k : Int)) (hcl : c.length ≤ 900) (at1 : PyData) (W : List (List Int)) :
    ∀ (ms dm : List Nat) (lab : Lab (List Int)) (nxt : List (List Int)) (kvs : List (List Int × PyData)) (e8 e9 e10 : Option RV), (∀ m ∈ dm ++ ms, m < us.length) → Go (succ := succM us r) (ws := ws) (c0 := c0) (par := parI) us.length k lab0 dn c x (triedM us r c dm) new lab nxt → Rep us.length kvs lab → W.length + nxt.length + ms.length ≤ 900000 →
    ∃ (lab' : Lab (List Int)) (nxt' : List (List Int)) (kvs' : List (List Int × PyData)) (e8' e9' e10' : Option RV), loopF (.nm 8) L0__law_costs (ms.map natI) [some (.d (.tuple (encU us))), some (.d (.int (r : Int))), some (.d (.list (ws.map .int))), some (.d g), some (.ot kvs), some (.ol ((W ++ nxt).map tupD)), some (.d at1), some (.d (tupD c)), e8, e9, e10]
      = .nx [some (.d (.tuple (encU us))), some (.d (.int (r : Int))), some (.d (.list (ws.map .int))), some (.d g), some (.ot kvs'), some (.ol ((W ++ nxt').map tupD)), some (.d at1), some (.d (tupD c)), e8', e9', e10']
      ∧ Go (succ := succM us r) (ws := ws) (c0 := c0) (par := parI) us.length k lab0 dn c x (triedM us r c (dm ++ ms)) new lab' nxt' ∧ Rep us.length kvs' lab'
  | [], dm, lab, nxt, kvs, e8, e9, e10, _, go, rep, _ => ⟨lab, nxt, kvs, e8, e9, e10, rfl, by rw [List.append_nil]; exact go, rep⟩
  | m :: ms, dm, lab, nxt, kvs, e8, e9, e10, hm, go, rep, hz => by
    rw [List.length_cons] at hz
    have hm0 : m < us.length := hm m (by simp)
    have e0 : dm ++ m :: ms = (dm ++ [m]) ++ ms := by simp
    obtain ⟨ix, _, _⟩ := pw.at (m := (m : Int)) (by omega) (by omega)
    have hul' : (usAt us (m : Int)).length ≤ 1000000 := by
      unfold usAt
      rw [Int.toNat_natCast, List.getD_eq_getElem?_getD, List.getElem?_eq_getElem hm0]
      have := hul _ (List.getElem_mem hm0)
      show (us[m]).length ≤ _
      omega
    have pc1 : F__law_can [.d (.tuple (encU us)), .d (tupD c), .d (.int (m : Int))] = .ok (.d (.bool (canM us c (m : Int)))) := law_can_ok us c (m : Int) (by omega) (by omega) hul'
    have pm1 : F__law_moved [.d (tupD c), .d (.int (m : Int))] = .ok (.d (tupD (movM c (m : Int)))) := law_moved_ok c (m : Int) (by omega)
    have ht : tgE (.nm 8) (natI m) [some (.d (.tuple (encU us))), some (.d (.int (r : Int))), some (.d (.list (ws.map .int))), some (.d g), some (.ot kvs), some (.ol ((W ++ nxt).map tupD)), some (.d at1), some (.d (tupD c)), e8, e9, e10] = some [some (.d (.tuple (encU us))), some (.d (.int (r : Int))), some (.d (.list (ws.map .int))), some (.d g), some (.ot kvs), some (.ol ((W ++ nxt).map tupD)), some (.d at1), some (.d (tupD c)), some (.d (.int (m : Int))), e9, e10] := rfl
    rw [List.map_cons, loopF_cons, ht]
    rw [e0] at hm ⊢
    have tr : triedM us r c (dm ++ [m]) = triedM us r c dm ++ (if okM us r c m = true then [((m : Int), movM c m)] else []) := by
      unfold triedM
      rw [List.filter_append, List.map_append]
      congr 1
      by_cases h : okM us r c m = true
      · rw [List.filter_cons_of_pos h, if_pos h]; rfl
      · rw [List.filter_cons_of_neg h, if_neg h]; rfl
    by_cases c1 : canM us c (m : Int) = true
    · have hln : gLen [.d (tupD (movM c (m : Int)))] = .ok (.d (.int (movM c (m : Int)).length)) := by rw [tupD, e_lenT, List.length_map]
      have hgc := rep.get c
      have lcx : lab c = some x := by
        obtain ⟨p, hp, hpc⟩ := s0 c x hx
        have pl : p.length = k := by
          have : (p.length : Int) = x.2 := congrArg Prod.snd hpc
          omega
        have pp := path_par (par := parI) (par_path hc0) hp
        rw [pl] at pp
        rw [go.keep c pp, hx]
      rw [lcx] at hgc
      have hgc : dGet kvs c = some (.tuple [.int x.1, .int x.2]) := hgc
      have hk1 : keyTD (tupD c) = some c := intsD_map c
      have hk2 : keyTD (tupD (movM c (m : Int))) = some (movM c (m : Int)) := intsD_map _
      by_cases c2 : (movM c (m : Int)).length ≤ r
      · have ok : okM us r c m = true := by unfold okM; rw [c1, decide_eq_true c2]; rfl
        rw [if_pos ok] at tr
        have he : ((m : Int), movM c m) ∈ succM us r c := succM_mem.mpr ⟨⟨by omega, by omega, c1, c2⟩, rfl⟩
        obtain ⟨_, hne, st⟩ := go.step hn (par_path hc0) s0 hx hk he
        have hdec : decide (((movM c (m : Int)).length : Int) ≤ (r : Int)) = true := decide_eq_true (by omega)
        have hgd := rep.get (movM c (m : Int))
        have hcfd : Cf us.length (movM c (m : Int)) := by
          obtain ⟨p, hp, _⟩ := s0 c x hx
          exact (hc0.path hp).mov (by omega) (by omega)
        simp only at st
        by_cases hb : better lab (movM c (m : Int)) (x.1 + wM ws (m : Int), x.2 + 1) = true
        · rw [if_pos hb, ← tr] at st
          have rep2 := rep.put hcfd (x.1 + wM ws (m : Int), x.2 + 1)
          obtain ⟨lab', nxt', kvs', e8', e9', e10', ih, g2, r2⟩ := costs_in pw hu hul hc0 s0 hn hx hk hcl at1 W ms (dm ++ [m]) _ _ _ (some (.d (.int (m : Int)))) (some (.d (tupD (movM c (m : Int))))) (some (.d (encL (x.1 + wM ws (m : Int), x.2 + 1)))) hm st rep2 (by rw [List.length_append, List.length_singleton]; omega)
          refine ⟨lab', nxt', kvs', e8', e9', e10', ?_, g2, r2⟩
          rw [← ih]
          have hlW : ((W ++ nxt).map tupD).length ≤ 1000000 := by rw [List.length_map, List.length_append]; omega
          have hlk := rep.len hu
          have hlk2 : kvs.length ≤ 1000000 := by omega
          have hap : (W ++ (nxt ++ [movM c (m : Int)])).map tupD = (W ++ nxt).map tupD ++ [tupD (movM c (m : Int))] := by rw [← List.append_assoc, List.map_append]; rfl
          have hel : encL (x.1 + wM ws (m : Int), x.2 + 1) = .tuple [.int (x.1 + wM ws (m : Int)), .int (x.2 + 1)] := rfl
          have hb2 : L0__law_costs [some (.d (.tuple (encU us))), some (.d (.int (r : Int))), some (.d (.list (ws.map .int))), some (.d g), some (.ot kvs), some (.ol ((W ++ nxt).map tupD)), some (.d at1), some (.d (tupD c)), some (.d (.int (m : Int))), e9, e10] = .nx [some (.d (.tuple (encU us))), some (.d (.int (r : Int))), some (.d (.list (ws.map .int))), some (.d g), some (.ot (dPut kvs (movM c (m : Int)) (encL (x.1 + wM ws (m : Int), x.2 + 1)))), some (.ol ((W ++ (nxt ++ [movM c (m : Int)])).map tupD)), some (.d at1), some (.d (tupD c)), some (.d (.int (m : Int))), some (.d (tupD (movM c (m : Int)))), some (.d (encL (x.1 + wM ws (m : Int), x.2 + 1)))] := by
            rw [hap]
            cases hd : lab (movM c (m : Int)) with
            | none =>
              rw [hd] at hgd
              have hgd : dGet kvs (movM c (m : Int)) = none := hgd
              rw [hel]
              unfold L0__law_costs
              generalize (W ++ nxt).map tupD = WN at *
              generalize tupD (movM c (m : Int)) = TD at *
              generalize tupD c = TC at *
              generalize encU us = EU at *
              generalize ws.map PyData.int = WS at *
              simp only [e_nil, e_seq, e_fz, e_bk, e_ct, e_ret, e_retN, e_drop, e_set, e_if, e_for, e_cC, e_c2, e_c1, e_cA, e_aN, e_aC, e_cB, e_asB, e_bNot, e_bAnd, e_bOr, e_vAnd, e_vOr, e_vNot, e_vIf, e_bYes, e_iL, e_iT, e_iLb, e_iR, e_gL1, e_gL2, e_gL3, e_gT, e_gLb1, e_gLb2, e_gLb3, e_gLb4, e_nb1, e_nb2, e_bor1, e_bor2, e_bor3, e_bor4, e_arg1, e_arg2, e_arg3, e_arg4, e_putd, e_puto, e_toD1, e_toD2, e_allD0, e_allD1, e_allD2, e_gTupl, e_gList, e_tgnm, e_tgtp, e_tg0, e_tg1, e_sq1, e_sq2, e_sq3, e_sq4, e_sq5, e_qv2, e_qv3, e_qv4, e_qv5, e_data1, e_data2, e_data3, e_okI, e_okB, e_i2, e_sub, e_mul, e_mod, e_div, e_pow, e_lt, e_le, e_gt, e_ge, e_neg, e_addI, e_addS, e_addT, e_addL1, e_addL2, e_addL3, e_addL4, e_addL5, e_addL6, e_addL7, e_addL8, e_addL9, e_eq, e_ne, e_in, e_notIn, e_inT, e_inT2, e_inL1, e_inL2, e_inL3, e_is, e_isNot, e_isN1, e_isN2, e_isN3, e_isN4, e_isN5, e_isN6, e_isN7, e_ixT, e_ixL, e_ixO, e_ixB, e_ixSc, e_lenT, e_lenL, e_lenO, e_lenB, e_lenSc, e_lenS, e_tupT, e_tupL, e_tupO, e_tupB, e_lisT, e_lisL, e_lisO, e_lisB, e_min2, e_max2, e_any, e_all, e_sum, e_sorted, e_rev, e_sl, e_oN, e_isi, e_lc, e_wipe0, e_wipe1, e_iA, e_iAb, e_gAq1, e_gAq2, e_gAq3, e_gAqb1, e_gAqb2, e_gAqb3, e_gAqb4, e_no, e_cCh, e_cChI, e_aug, e_decT, e_decF, e_cDispS, e_cDT, e_cDK, e_cDisp1, e_storeA, e_stR1, e_stR2, e_stR3, e_sd1, e_keyD1, e_keyD2, e_keyTD, e_intsD, e_intsD0, e_borT, e_borT2, e_borK, e_borK2, e_argT, e_argT2, e_argK, e_argK2, e_nbT, e_nbK, e_putT, e_putK, e_gAt1, e_gAt2, e_gAt3, e_gAt4, e_gGetDK, e_gGetDT, e_gIxD, e_gInD, e_gNotInD, e_cGet1, e_cGet2, e_dk1, e_dk2, e_dk3, e_dk4, e_dt1, e_dt2, e_del, atI_zero, e_at1, e_at2, e_at3, e_at4, e_at5, e_at6, e_at7, e_at8, e_at9, e_atm, e_V, e_retV, e_unp, e_app, e_store, e_fzE, oS, rsO_some, Rs.bind_ok, Rs.bind_no, Rs.out_ok, Out.then_nx, Out.then_rt, Out.then_ct, Out.then_bk, fin_rt, fin_nx, List.getElem?_cons_zero, List.getElem?_cons_succ, List.set_cons_succ, List.set_cons_zero, List.length_cons, List.length_nil, Nat.reduceAdd, Nat.reduceLT, Nat.reduceLeDiff, Nat.reduceEqDiff, if_true, if_false, Bool.false_eq_true, Bool.not_true, Bool.not_false, and_self, true_and, and_true, List.map_cons, List.map_nil, Option.map_some, sh_int, sh_bool, sh_none, sh_tup, sh_lst, eqv_int, reduceIte, Option.bind_some, Option.bind_none, kitB_ll, kitB_lt, kitB_tt, kitB_tl, kitB_ii, tyD_list, tyD_int, Bool.true_and, Bool.false_and, Bool.and_true, Bool.and_false, Bool.or_true, Bool.true_or, Bool.false_or, Bool.or_false, Bool.and_self, Bool.or_self, e_cAK, List.append_nil, List.nil_append, List.cons_append, e_andB, e_orB, e_andR, e_orR, tyD_tuple, eqv_bool, eqv_none, tyD_bool, tyD_str, tyD_none, kitB_bb, kitB_nb, kitB_bi, kitB_ib, kitB_nl, kitB_nt, beq_self_eq_true, pc1, c1, pm1, hln, hdec, hk1, hk2, hgc, hgd, ix, Option.isSome_none, if_pos hlW, if_pos hlk2]
            | some y =>
              rw [hd] at hgd
              have hgd : dGet kvs (movM c (m : Int)) = some (encL y) := hgd
              have hlt := encL_lt (x.1 + wM ws (m : Int), x.2 + 1) y
              have hal := encL_alike (x.1 + wM ws (m : Int), x.2 + 1) y
              have hok := encL_ok (x.1 + wM ws (m : Int), x.2 + 1)
              have hb' : decide (Lt2 (x.1 + wM ws (m : Int), x.2 + 1) y) = true := by unfold better at hb; rw [hd] at hb; exact hb
              rw [hb'] at hlt
              rw [hel] at hlt hal hok ⊢
              unfold L0__law_costs
              generalize (W ++ nxt).map tupD = WN at *
              generalize tupD (movM c (m : Int)) = TD at *
              generalize tupD c = TC at *
              generalize encU us = EU at *
              generalize ws.map PyData.int = WS at *
              generalize encL y = EY at *
              simp only [e_nil, e_seq, e_fz, e_bk, e_ct, e_ret, e_retN, e_drop, e_set, e_if, e_for, e_cC, e_c2, e_c1, e_cA, e_aN, e_aC, e_cB, e_asB, e_bNot, e_bAnd, e_bOr, e_vAnd, e_vOr, e_vNot, e_vIf, e_bYes, e_iL, e_iT, e_iLb, e_iR, e_gL1, e_gL2, e_gL3, e_gT, e_gLb1, e_gLb2, e_gLb3, e_gLb4, e_nb1, e_nb2, e_bor1, e_bor2, e_bor3, e_bor4, e_arg1, e_arg2, e_arg3, e_arg4, e_putd, e_puto, e_toD1, e_toD2, e_allD0, e_allD1, e_allD2, e_gTupl, e_gList, e_tgnm, e_tgtp, e_tg0, e_tg1, e_sq1, e_sq2, e_sq3, e_sq4, e_sq5, e_qv2, e_qv3, e_qv4, e_qv5, e_data1, e_data2, e_data3, e_okI, e_okB, e_i2, e_sub, e_mul, e_mod, e_div, e_pow, e_lt, e_le, e_gt, e_ge, e_neg, e_addI, e_addS, e_addT, e_addL1, e_addL2, e_addL3, e_addL4, e_addL5, e_addL6, e_addL7, e_addL8, e_addL9, e_eq, e_ne, e_in, e_notIn, e_inT, e_inT2, e_inL1, e_inL2, e_inL3, e_is, e_isNot, e_isN1, e_isN2, e_isN3, e_isN4, e_isN5, e_isN6, e_isN7, e_ixT, e_ixL, e_ixO, e_ixB, e_ixSc, e_lenT, e_lenL, e_lenO, e_lenB, e_lenSc, e_lenS, e_tupT, e_tupL, e_tupO, e_tupB, e_lisT, e_lisL, e_lisO, e_lisB, e_min2, e_max2, e_any, e_all, e_sum, e_sorted, e_rev, e_sl, e_oN, e_isi, e_lc, e_wipe0, e_wipe1, e_iA, e_iAb, e_gAq1, e_gAq2, e_gAq3, e_gAqb1, e_gAqb2, e_gAqb3, e_gAqb4, e_no, e_cCh, e_cChI, e_aug, e_decT, e_decF, e_cDispS, e_cDT, e_cDK, e_cDisp1, e_storeA, e_stR1, e_stR2, e_stR3, e_sd1, e_keyD1, e_keyD2, e_keyTD, e_intsD, e_intsD0, e_borT, e_borT2, e_borK, e_borK2, e_argT, e_argT2, e_argK, e_argK2, e_nbT, e_nbK, e_putT, e_putK, e_gAt1, e_gAt2, e_gAt3, e_gAt4, e_gGetDK, e_gGetDT, e_gIxD, e_gInD, e_gNotInD, e_cGet1, e_cGet2, e_dk1, e_dk2, e_dk3, e_dk4, e_dt1, e_dt2, e_del, atI_zero, e_at1, e_at2, e_at3, e_at4, e_at5, e_at6, e_at7, e_at8, e_at9, e_atm, e_V, e_retV, e_unp, e_app, e_store, e_fzE, oS, rsO_some, Rs.bind_ok, Rs.bind_no, Rs.out_ok, Out.then_nx, Out.then_rt, Out.then_ct, Out.then_bk, fin_rt, fin_nx, List.getElem?_cons_zero, List.getElem?_cons_succ, List.set_cons_succ, List.set_cons_zero, List.length_cons, List.length_nil, Nat.reduceAdd, Nat.reduceLT, Nat.reduceLeDiff, Nat.reduceEqDiff, if_true, if_false, Bool.false_eq_true, Bool.not_true, Bool.not_false, and_self, true_and, and_true, List.map_cons, List.map_nil, Option.map_some, sh_int, sh_bool, sh_none, sh_tup, sh_lst, eqv_int, reduceIte, Option.bind_some, Option.bind_none, kitB_ll, kitB_lt, kitB_tt, kitB_tl, kitB_ii, tyD_list, tyD_int, Bool.true_and, Bool.false_and, Bool.and_true, Bool.and_false, Bool.or_true, Bool.true_or, Bool.false_or, Bool.or_false, Bool.and_self, Bool.or_self, e_cAK, List.append_nil, List.nil_append, List.cons_append, e_andB, e_orB, e_andR, e_orR, tyD_tuple, eqv_bool, eqv_none, tyD_bool, tyD_str, tyD_none, kitB_bb, kitB_nb, kitB_bi, kitB_ib, kitB_nl, kitB_nt, beq_self_eq_true, pc1, c1, pm1, hln, hdec, hk1, hk2, hgc, hgd, ix, Option.isSome_some, if_pos hlW, if_pos hlk2, e_ltD, RV.data, hlt, hal, hok]
          simp only [hb2, lp_nx]
        · rw [if_neg hb, ← tr] at st
          obtain ⟨lab', nxt', kvs', e8', e9', e10', ih, g2, r2⟩ := costs_in pw hu hul hc0 s0 hn hx hk hcl at1 W ms (dm ++ [m]) _ _ _ (some (.d (.int (m : Int)))) (some (.d (tupD (movM c (m : Int))))) (some (.d (encL (x.1 + wM ws (m : Int), x.2 + 1)))) hm st rep (by omega)
          refine ⟨lab', nxt', kvs', e8', e9', e10', ?_, g2, r2⟩
          rw [← ih]
          have hel : encL (x.1 + wM ws (m : Int), x.2 + 1) = .tuple [.int (x.1 + wM ws (m : Int)), .int (x.2 + 1)] := rfl
          have hb2 : L0__law_costs [some (.d (.tuple (encU us))), some (.d (.int (r : Int))), some (.d (.list (ws.map .int))), some (.d g), some (.ot kvs), some (.ol ((W ++ nxt).map tupD)), some (.d at1), some (.d (tupD c)), some (.d (.int (m : Int))), e9, e10] = .nx [some (.d (.tuple (encU us))), some (.d (.int (r : Int))), some (.d (.list (ws.map .int))), some (.d g), some (.ot kvs), some (.ol ((W ++ nxt).map tupD)), some (.d at1), some (.d (tupD c)), some (.d (.int (m : Int))), some (.d (tupD (movM c (m : Int)))), some (.d (encL (x.1 + wM ws (m : Int), x.2 + 1)))] := by
            cases hd : lab (movM c (m : Int)) with
            | none => unfold better at hb; rw [hd] at hb; exact absurd rfl hb
            | some y =>
              rw [hd] at hgd
              have hgd : dGet kvs (movM c (m : Int)) = some (encL y) := hgd
              have hlt := encL_lt (x.1 + wM ws (m : Int), x.2 + 1) y
              have hal := encL_alike (x.1 + wM ws (m : Int), x.2 + 1) y
              have hok := encL_ok (x.1 + wM ws (m : Int), x.2 + 1)
              have hb' : decide (Lt2 (x.1 + wM ws (m : Int), x.2 + 1) y) = false := by
                unfold better at hb
                rw [hd] at hb
                simpa using hb
              rw [hb'] at hlt
              rw [hel] at hlt hal hok ⊢
              unfold L0__law_costs
              generalize (W ++ nxt).map tupD = WN at *
              generalize tupD (movM c (m : Int)) = TD at *
              generalize tupD c = TC at *
              generalize encU us = EU at *
              generalize ws.map PyData.int = WS at *
              generalize encL y = EY at *
              simp only [e_nil, e_seq, e_fz, e_bk, e_ct, e_ret, e_retN, e_drop, e_set, e_if, e_for, e_cC, e_c2, e_c1, e_cA, e_aN, e_aC, e_cB, e_asB, e_bNot, e_bAnd, e_bOr, e_vAnd, e_vOr, e_vNot, e_vIf, e_bYes, e_iL, e_iT, e_iLb, e_iR, e_gL1, e_gL2, e_gL3, e_gT, e_gLb1, e_gLb2, e_gLb3, e_gLb4, e_nb1, e_nb2, e_bor1, e_bor2, e_bor3, e_bor4, e_arg1, e_arg2, e_arg3, e_arg4, e_putd, e_puto, e_toD1, e_toD2, e_allD0, e_allD1, e_allD2, e_gTupl, e_gList, e_tgnm, e_tgtp, e_tg0, e_tg1, e_sq1, e_sq2, e_sq3, e_sq4, e_sq5, e_qv2, e_qv3, e_qv4, e_qv5, e_data1, e_data2, e_data3, e_okI, e_okB, e_i2, e_sub, e_mul, e_mod, e_div, e_pow, e_lt, e_le, e_gt, e_ge, e_neg, e_addI, e_addS, e_addT, e_addL1, e_addL2, e_addL3, e_addL4, e_addL5, e_addL6, e_addL7, e_addL8, e_addL9, e_eq, e_ne, e_in, e_notIn, e_inT, e_inT2, e_inL1, e_inL2, e_inL3, e_is, e_isNot, e_isN1, e_isN2, e_isN3, e_isN4, e_isN5, e_isN6, e_isN7, e_ixT, e_ixL, e_ixO, e_ixB, e_ixSc, e_lenT, e_lenL, e_lenO, e_lenB, e_lenSc, e_lenS, e_tupT, e_tupL, e_tupO, e_tupB, e_lisT, e_lisL, e_lisO, e_lisB, e_min2, e_max2, e_any, e_all, e_sum, e_sorted, e_rev, e_sl, e_oN, e_isi, e_lc, e_wipe0, e_wipe1, e_iA, e_iAb, e_gAq1, e_gAq2, e_gAq3, e_gAqb1, e_gAqb2, e_gAqb3, e_gAqb4, e_no, e_cCh, e_cChI, e_aug, e_decT, e_decF, e_cDispS, e_cDT, e_cDK, e_cDisp1, e_storeA, e_stR1, e_stR2, e_stR3, e_sd1, e_keyD1, e_keyD2, e_keyTD, e_intsD, e_intsD0, e_borT, e_borT2, e_borK, e_borK2, e_argT, e_argT2, e_argK, e_argK2, e_nbT, e_nbK, e_putT, e_putK, e_gAt1, e_gAt2, e_gAt3, e_gAt4, e_gGetDK, e_gGetDT, e_gIxD, e_gInD, e_gNotInD, e_cGet1, e_cGet2, e_dk1, e_dk2, e_dk3, e_dk4, e_dt1, e_dt2, e_del, atI_zero, e_at1, e_at2, e_at3, e_at4, e_at5, e_at6, e_at7, e_at8, e_at9, e_atm, e_V, e_retV, e_unp, e_app, e_store, e_fzE, oS, rsO_some, Rs.bind_ok, Rs.bind_no, Rs.out_ok, Out.then_nx, Out.then_rt, Out.then_ct, Out.then_bk, fin_rt, fin_nx, List.getElem?_cons_zero, List.getElem?_cons_succ, List.set_cons_succ, List.set_cons_zero, List.length_cons, List.length_nil, Nat.reduceAdd, Nat.reduceLT, Nat.reduceLeDiff, Nat.reduceEqDiff, if_true, if_false, Bool.false_eq_true, Bool.not_true, Bool.not_false, and_self, true_and, and_true, List.map_cons, List.map_nil, Option.map_some, sh_int, sh_bool, sh_none, sh_tup, sh_lst, eqv_int, reduceIte, Option.bind_some, Option.bind_none, kitB_ll, kitB_lt, kitB_tt, kitB_tl, kitB_ii, tyD_list, tyD_int, Bool.true_and, Bool.false_and, Bool.and_true, Bool.and_false, Bool.or_true, Bool.true_or, Bool.false_or, Bool.or_false, Bool.and_self, Bool.or_self, e_cAK, List.append_nil, List.nil_append, List.cons_append, e_andB, e_orB, e_andR, e_orR, tyD_tuple, eqv_bool, eqv_none, tyD_bool, tyD_str, tyD_none, kitB_bb, kitB_nb, kitB_bi, kitB_ib, kitB_nl, kitB_nt, beq_self_eq_true, pc1, c1, pm1, hln, hdec, hk1, hk2, hgc, hgd, ix, Option.isSome_some, e_ltD, RV.data, hlt, hal, hok]
          simp only [hb2, lp_nx]
      · have ok : ¬ okM us r c m = true := by unfold okM; rw [c1, decide_eq_false c2]; simp
        rw [if_neg ok, List.append_nil] at tr
        rw [← tr] at go
        have hdec : decide (((movM c (m : Int)).length : Int) ≤ (r : Int)) = false := decide_eq_false (by omega)
        obtain ⟨lab', nxt', kvs', e8', e9', e10', ih, g2, r2⟩ := costs_in pw hu hul hc0 s0 hn hx hk hcl at1 W ms (dm ++ [m]) _ _ _ (some (.d (.int (m : Int)))) (some (.d (tupD (movM c (m : Int))))) (some (.d (encL (x.1 + wM ws (m : Int), x.2 + 1)))) hm go rep (by omega)
        refine ⟨lab', nxt', kvs', e8', e9', e10', ?_, g2, r2⟩
        rw [← ih]
        have hel : encL (x.1 + wM ws (m : Int), x.2 + 1) = .tuple [.int (x.1 + wM ws (m : Int)), .int (x.2 + 1)] := rfl
        have hb2 : L0__law_costs [some (.d (.tuple (encU us))), some (.d (.int (r : Int))), some (.d (.list (ws.map .int))), some (.d g), some (.ot kvs), some (.ol ((W ++ nxt).map tupD)), some (.d at1), some (.d (tupD c)), some (.d (.int (m : Int))), e9, e10] = .nx [some (.d (.tuple (encU us))), some (.d (.int (r : Int))), some (.d (.list (ws.map .int))), some (.d g), some (.ot kvs), some (.ol ((W ++ nxt).map tupD)), some (.d at1), some (.d (tupD c)), some (.d (.int (m : Int))), some (.d (tupD (movM c (m : Int)))), some (.d (encL (x.1 + wM ws (m : Int), x.2 + 1)))] := by
          rw [hel]
          unfold L0__law_costs
          generalize (W ++ nxt).map tupD = WN at *
          generalize tupD (movM c (m : Int)) = TD at *
          generalize tupD c = TC at *
          generalize encU us = EU at *
          generalize ws.map PyData.int = WS at *
          simp only [e_nil, e_seq, e_fz, e_bk, e_ct, e_ret, e_retN, e_drop, e_set, e_if, e_for, e_cC, e_c2, e_c1, e_cA, e_aN, e_aC, e_cB, e_asB, e_bNot, e_bAnd, e_bOr, e_vAnd, e_vOr, e_vNot, e_vIf, e_bYes, e_iL, e_iT, e_iLb, e_iR, e_gL1, e_gL2, e_gL3, e_gT, e_gLb1, e_gLb2, e_gLb3, e_gLb4, e_nb1, e_nb2, e_bor1, e_bor2, e_bor3, e_bor4, e_arg1, e_arg2, e_arg3, e_arg4, e_putd, e_puto, e_toD1, e_toD2, e_allD0, e_allD1, e_allD2, e_gTupl, e_gList, e_tgnm, e_tgtp, e_tg0, e_tg1, e_sq1, e_sq2, e_sq3, e_sq4, e_sq5, e_qv2, e_qv3, e_qv4, e_qv5, e_data1, e_data2, e_data3, e_okI, e_okB, e_i2, e_sub, e_mul, e_mod, e_div, e_pow, e_lt, e_le, e_gt, e_ge, e_neg, e_addI, e_addS, e_addT, e_addL1, e_addL2, e_addL3, e_addL4, e_addL5, e_addL6, e_addL7, e_addL8, e_addL9, e_eq, e_ne, e_in, e_notIn, e_inT, e_inT2, e_inL1, e_inL2, e_inL3, e_is, e_isNot, e_isN1, e_isN2, e_isN3, e_isN4, e_isN5, e_isN6, e_isN7, e_ixT, e_ixL, e_ixO, e_ixB, e_ixSc, e_lenT, e_lenL, e_lenO, e_lenB, e_lenSc, e_lenS, e_tupT, e_tupL, e_tupO, e_tupB, e_lisT, e_lisL, e_lisO, e_lisB, e_min2, e_max2, e_any, e_all, e_sum, e_sorted, e_rev, e_sl, e_oN, e_isi, e_lc, e_wipe0, e_wipe1, e_iA, e_iAb, e_gAq1, e_gAq2, e_gAq3, e_gAqb1, e_gAqb2, e_gAqb3, e_gAqb4, e_no, e_cCh, e_cChI, e_aug, e_decT, e_decF, e_cDispS, e_cDT, e_cDK, e_cDisp1, e_storeA, e_stR1, e_stR2, e_stR3, e_sd1, e_keyD1, e_keyD2, e_keyTD, e_intsD, e_intsD0, e_borT, e_borT2, e_borK, e_borK2, e_argT, e_argT2, e_argK, e_argK2, e_nbT, e_nbK, e_putT, e_putK, e_gAt1, e_gAt2, e_gAt3, e_gAt4, e_gGetDK, e_gGetDT, e_gIxD, e_gInD, e_gNotInD, e_cGet1, e_cGet2, e_dk1, e_dk2, e_dk3, e_dk4, e_dt1, e_dt2, e_del, atI_zero, e_at1, e_at2, e_at3, e_at4, e_at5, e_at6, e_at7, e_at8, e_at9, e_atm, e_V, e_retV, e_unp, e_app, e_store, e_fzE, oS, rsO_some, Rs.bind_ok, Rs.bind_no, Rs.out_ok, Out.then_nx, Out.then_rt, Out.then_ct, Out.then_bk, fin_rt, fin_nx, List.getElem?_cons_zero, List.getElem?_cons_succ, List.set_cons_succ, List.set_cons_zero, List.length_cons, List.length_nil, Nat.reduceAdd, Nat.reduceLT, Nat.reduceLeDiff, Nat.reduceEqDiff, if_true, if_false, Bool.false_eq_true, Bool.not_true, Bool.not_false, and_self, true_and, and_true, List.map_cons, List.map_nil, Option.map_some, sh_int, sh_bool, sh_none, sh_tup, sh_lst, eqv_int, reduceIte, Option.bind_some, Option.bind_none, kitB_ll, kitB_lt, kitB_tt, kitB_tl, kitB_ii, tyD_list, tyD_int, Bool.true_and, Bool.false_and, Bool.and_true, Bool.and_false, Bool.or_true, Bool.true_or, Bool.false_or, Bool.or_false, Bool.and_self, Bool.or_self, e_cAK, List.append_nil, List.nil_append, List.cons_append, e_andB, e_orB, e_andR, e_orR, tyD_tuple, eqv_bool, eqv_none, tyD_bool, tyD_str, tyD_none, kitB_bb, kitB_nb, kitB_bi, kitB_ib, kitB_nl, kitB_nt, beq_self_eq_true, pc1, c1, pm1, hln, hdec, hk1, hgc, ix]
        simp only [hb2, lp_nx]
    · have c1' : canM us c (m : Int) = false := by simpa using c1
      have ok : ¬ okM us r c m = true := by unfold okM; rw [c1']; simp
      rw [if_neg ok, List.append_nil] at tr
      rw [← tr] at go
      obtain ⟨lab', nxt', kvs', e8', e9', e10', ih, g2, r2⟩ := costs_in pw hu hul hc0 s0 hn hx hk hcl at1 W ms (dm ++ [m]) _ _ _ (some (.d (.int (m : Int)))) e9 e10 hm go rep (by omega)
      refine ⟨lab', nxt', kvs', e8', e9', e10', ?_, g2, r2⟩
      rw [← ih]
      have hb2 : L0__law_costs [some (.d (.tuple (encU us))), some (.d (.int (r : Int))), some (.d (.list (ws.map .int))), some (.d g), some (.ot kvs), some (.ol ((W ++ nxt).map tupD)), some (.d at1), some (.d (tupD c)), some (.d (.int (m : Int))), e9, e10] = .nx [some (.d (.tuple (encU us))), some (.d (.int (r : Int))), some (.d (.list (ws.map .int))), some (.d g), some (.ot kvs), some (.ol ((W ++ nxt).map tupD)), some (.d at1), some (.d (tupD c)), some (.d (.int (m : Int))), e9, e10] := by
        unfold L0__law_costs
        generalize (W ++ nxt).map tupD = WN at *
        generalize tupD c = TC at *
        generalize encU us = EU at *
        generalize ws.map PyData.int = WS at *
        simp only [e_nil, e_seq, e_fz, e_bk, e_ct, e_ret, e_retN, e_drop, e_set, e_if, e_for, e_cC, e_c2, e_c1, e_cA, e_aN, e_aC, e_cB, e_asB, e_bNot, e_bAnd, e_bOr, e_vAnd, e_vOr, e_vNot, e_vIf, e_bYes, e_iL, e_iT, e_iLb, e_iR, e_gL1, e_gL2, e_gL3, e_gT, e_gLb1, e_gLb2, e_gLb3, e_gLb4, e_nb1, e_nb2, e_bor1, e_bor2, e_bor3, e_bor4, e_arg1, e_arg2, e_arg3, e_arg4, e_putd, e_puto, e_toD1, e_toD2, e_allD0, e_allD1, e_allD2, e_gTupl, e_gList, e_tgnm, e_tgtp, e_tg0, e_tg1, e_sq1, e_sq2, e_sq3, e_sq4, e_sq5, e_qv2, e_qv3, e_qv4, e_qv5, e_data1, e_data2, e_data3, e_okI, e_okB, e_i2, e_sub, e_mul, e_mod, e_div, e_pow, e_lt, e_le, e_gt, e_ge, e_neg, e_addI, e_addS, e_addT, e_addL1, e_addL2, e_addL3, e_addL4, e_addL5, e_addL6, e_addL7, e_addL8, e_addL9, e_eq, e_ne, e_in, e_notIn, e_inT, e_inT2, e_inL1, e_inL2, e_inL3, e_is, e_isNot, e_isN1, e_isN2, e_isN3, e_isN4, e_isN5, e_isN6, e_isN7, e_ixT, e_ixL, e_ixO, e_ixB, e_ixSc, e_lenT, e_lenL, e_lenO, e_lenB, e_lenSc, e_lenS, e_tupT, e_tupL, e_tupO, e_tupB, e_lisT, e_lisL, e_lisO, e_lisB, e_min2, e_max2, e_any, e_all, e_sum, e_sorted, e_rev, e_sl, e_oN, e_isi, e_lc, e_wipe0, e_wipe1, e_iA, e_iAb, e_gAq1, e_gAq2, e_gAq3, e_gAqb1, e_gAqb2, e_gAqb3, e_gAqb4, e_no, e_cCh, e_cChI, e_aug, e_decT, e_decF, e_cDispS, e_cDT, e_cDK, e_cDisp1, e_storeA, e_stR1, e_stR2, e_stR3, e_sd1, e_keyD1, e_keyD2, e_keyTD, e_intsD, e_intsD0, e_borT, e_borT2, e_borK, e_borK2, e_argT, e_argT2, e_argK, e_argK2, e_nbT, e_nbK, e_putT, e_putK, e_gAt1, e_gAt2, e_gAt3, e_gAt4, e_gGetDK, e_gGetDT, e_gIxD, e_gInD, e_gNotInD, e_cGet1, e_cGet2, e_dk1, e_dk2, e_dk3, e_dk4, e_dt1, e_dt2, e_del, atI_zero, e_at1, e_at2, e_at3, e_at4, e_at5, e_at6, e_at7, e_at8, e_at9, e_atm, e_V, e_retV, e_unp, e_app, e_store, e_fzE, oS, rsO_some, Rs.bind_ok, Rs.bind_no, Rs.out_ok, Out.then_nx, Out.then_rt, Out.then_ct, Out.then_bk, fin_rt, fin_nx, List.getElem?_cons_zero, List.getElem?_cons_succ, List.set_cons_succ, List.set_cons_zero, List.length_cons, List.length_nil, Nat.reduceAdd, Nat.reduceLT, Nat.reduceLeDiff, Nat.reduceEqDiff, if_true, if_false, Bool.false_eq_true, Bool.not_true, Bool.not_false, and_self, true_and, and_true, List.map_cons, List.map_nil, Option.map_some, sh_int, sh_bool, sh_none, sh_tup, sh_lst, eqv_int, reduceIte, Option.bind_some, Option.bind_none, kitB_ll, kitB_lt, kitB_tt, kitB_tl, kitB_ii, tyD_list, tyD_int, Bool.true_and, Bool.false_and, Bool.and_true, Bool.and_false, Bool.or_true, Bool.true_or, Bool.false_or, Bool.or_false, Bool.and_self, Bool.or_self, e_cAK, List.append_nil, List.nil_append, List.cons_append, e_andB, e_orB, e_andR, e_orR, tyD_tuple, eqv_bool, eqv_none, tyD_bool, tyD_str, tyD_none, kitB_bb, kitB_nb, kitB_bi, kitB_ib, kitB_nl, kitB_nt, beq_self_eq_true, pc1, c1']
      simp only [hb2, lp_nx]
theorem costs_turn {us : List (List Int)} {ws : List Int} {r : Nat} {c0 : List Int} {g : PyData} (pw : PrOk ws us.length) (hu : us.length ≤ 8) (hul : ∀ u ∈ us, u.length ≤ 1000) (hc0 : Cf us.length c0) (hc0l : c0.length ≤ 800) (hr8 : r ≤ 800) {k : Nat} {lab0 lab : Lab (List Int)} (s0 : Snd (succM us r) ws c0 lab0) {dn nxt W : List (List Int)} {c : List Int} {x : Int × Int} (hx : lab0 c = some x) (hk : x.2 = (k : Int)) {kvs : List (List Int × PyData)} (rep : Rep us.length kvs lab)
    (i : In (succM us r) ws c0 parI us.length k lab0 dn lab nxt) (hz : W.length + nxt.length ≤ 890000) {a : Nat} (ha : (W ++ nxt)[a]? = some c) (e7 e8 e9 e10 : Option RV) :
    ∃ (lab' : Lab (List Int)) (nxt' : List (List Int)) (kvs' : List (List Int × PyData)) (e8' e9' e10' : Option RV), L1__law_costs [some (.d (.tuple (encU us))), some (.d (.int (r : Int))), some (.d (.list (ws.map .int))), some (.d g), some (.ot kvs), some (.ol ((W ++ nxt).map tupD)), some (.d (.int (a : Int))), e7, e8, e9, e10]
      = .nx [some (.d (.tuple (encU us))), some (.d (.int (r : Int))), some (.d (.list (ws.map .int))), some (.d g), some (.ot kvs'), some (.ol ((W ++ nxt').map tupD)), some (.d (.int ((a : Int) + 1))), some (.d (tupD c)), e8', e9', e10']
      ∧ In (succM us r) ws c0 parI us.length k lab0 (dn ++ [c]) lab' nxt' ∧ Rep us.length kvs' lab' := by
  obtain ⟨p, hp, _⟩ := s0 c x hx
  have cl := path_len hp
  obtain ⟨new, hn⟩ : ∃ new : Bool, new = true ↔ c ∉ dn := by
    by_cases h : c ∈ dn
    · exact ⟨false, by simp [h]⟩
    · exact ⟨true, by simp [h]⟩
  obtain ⟨lab', nxt', kvs', e8', e9', e10', hl, go, r2⟩ := costs_in (g := g) pw hu hul hc0 s0 hn hx hk (by omega) (.int ((a : Int) + 1)) W (List.range us.length) [] lab nxt kvs e8 e9 e10 (fun m hm => List.mem_range.mp (by simpa using hm)) (Go.start c x new i) rep (by rw [List.length_range]; omega)
  have tr : triedM us r c ([] ++ List.range us.length) = succM us r c := rfl
  rw [tr] at go
  refine ⟨lab', nxt', kvs', e8', e9', e10', ?_, go.fin hn (succM_len us r c) hx, r2⟩
  have la : a < (W ++ nxt).length := (List.getElem?_eq_some_iff.mp ha).1
  have hat : atI ((W ++ nxt).map tupD) (a : Int) = some (tupD c) := by
    rw [atI_cons _ _ (by rw [List.length_map]; exact la), List.getElem?_map, ha]
    rfl
  have hrn := e_R1n (n := us.length) (by omega)
  rw [rng_nat] at hrn
  have ule : (encU us).length = us.length := encU_len us
  unfold L1__law_costs
  generalize (W ++ nxt).map tupD = WN at *
  generalize (W ++ nxt').map tupD = WN' at *
  generalize tupD c = TC at *
  generalize encU us = EU at *
  generalize ws.map PyData.int = WS at *
  generalize (List.range us.length).map natI = RN at *
  simp only [e_nil, e_seq, e_fz, e_bk, e_ct, e_ret, e_retN, e_drop, e_set, e_if, e_for, e_cC, e_c2, e_c1, e_cA, e_aN, e_aC, e_cB, e_asB, e_bNot, e_bAnd, e_bOr, e_vAnd, e_vOr, e_vNot, e_vIf, e_bYes, e_iL, e_iT, e_iLb, e_iR, e_gL1, e_gL2, e_gL3, e_gT, e_gLb1, e_gLb2, e_gLb3, e_gLb4, e_nb1, e_nb2, e_bor1, e_bor2, e_bor3, e_bor4, e_arg1, e_arg2, e_arg3, e_arg4, e_putd, e_puto, e_toD1, e_toD2, e_allD0, e_allD1, e_allD2, e_gTupl, e_gList, e_tgnm, e_tgtp, e_tg0, e_tg1, e_sq1, e_sq2, e_sq3, e_sq4, e_sq5, e_qv2, e_qv3, e_qv4, e_qv5, e_data1, e_data2, e_data3, e_okI, e_okB, e_i2, e_sub, e_mul, e_mod, e_div, e_pow, e_lt, e_le, e_gt, e_ge, e_neg, e_addI, e_addS, e_addT, e_addL1, e_addL2, e_addL3, e_addL4, e_addL5, e_addL6, e_addL7, e_addL8, e_addL9, e_eq, e_ne, e_in, e_notIn, e_inT, e_inT2, e_inL1, e_inL2, e_inL3, e_is, e_isNot, e_isN1, e_isN2, e_isN3, e_isN4, e_isN5, e_isN6, e_isN7, e_ixT, e_ixL, e_ixO, e_ixB, e_ixSc, e_lenT, e_lenL, e_lenO, e_lenB, e_lenSc, e_lenS, e_tupT, e_tupL, e_tupO, e_tupB, e_lisT, e_lisL, e_lisO, e_lisB, e_min2, e_max2, e_any, e_all, e_sum, e_sorted, e_rev, e_sl, e_oN, e_isi, e_lc, e_wipe0, e_wipe1, e_iA, e_iAb, e_gAq1, e_gAq2, e_gAq3, e_gAqb1, e_gAqb2, e_gAqb3, e_gAqb4, e_no, e_cCh, e_cChI, e_aug, e_decT, e_decF, e_cDispS, e_cDT, e_cDK, e_cDisp1, e_storeA, e_stR1, e_stR2, e_stR3, e_sd1, e_keyD1, e_keyD2, e_keyTD, e_intsD, e_intsD0, e_borT, e_borT2, e_borK, e_borK2, e_argT, e_argT2, e_argK, e_argK2, e_nbT, e_nbK, e_putT, e_putK, e_gAt1, e_gAt2, e_gAt3, e_gAt4, e_gGetDK, e_gGetDT, e_gIxD, e_gInD, e_gNotInD, e_cGet1, e_cGet2, e_dk1, e_dk2, e_dk3, e_dk4, e_dt1, e_dt2, e_del, atI_zero, e_at1, e_at2, e_at3, e_at4, e_at5, e_at6, e_at7, e_at8, e_at9, e_atm, e_V, e_retV, e_unp, e_app, e_store, e_fzE, oS, rsO_some, Rs.bind_ok, Rs.bind_no, Rs.out_ok, Out.then_nx, Out.then_rt, Out.then_ct, Out.then_bk, fin_rt, fin_nx, List.getElem?_cons_zero, List.getElem?_cons_succ, List.set_cons_succ, List.set_cons_zero, List.length_cons, List.length_nil, Nat.reduceAdd, Nat.reduceLT, Nat.reduceLeDiff, Nat.reduceEqDiff, if_true, if_false, Bool.false_eq_true, Bool.not_true, Bool.not_false, and_self, true_and, and_true, List.map_cons, List.map_nil, Option.map_some, sh_int, sh_bool, sh_none, sh_tup, sh_lst, eqv_int, reduceIte, Option.bind_some, Option.bind_none, kitB_ll, kitB_lt, kitB_tt, kitB_tl, kitB_ii, tyD_list, tyD_int, Bool.true_and, Bool.false_and, Bool.and_true, Bool.and_false, Bool.or_true, Bool.true_or, Bool.false_or, Bool.or_false, Bool.and_self, Bool.or_self, e_cAK, List.append_nil, List.nil_append, List.cons_append, e_andB, e_orB, e_andR, e_orR, tyD_tuple, eqv_bool, eqv_none, tyD_bool, tyD_str, tyD_none, kitB_bb, kitB_nb, kitB_bi, kitB_ib, kitB_nl, kitB_nt, beq_self_eq_true, hat, ule, hrn, hl]
def costC : VEnv → Rs Bool := cB (c2 gLt (cV 6) (cA gLen (aC (cV 5) aN)))
theorem costs_phase {us : List (List Int)} {ws : List Int} {r : Nat} {c0 : List Int} {g : PyData} (pw : PrOk ws us.length) (hu : us.length ≤ 8) (hul : ∀ u ∈ us, u.length ≤ 1000) (hc0 : Cf us.length c0) (hc0l : c0.length ≤ 800) (hr8 : r ≤ 800) {k : Nat} {lab0 : Lab (List Int)} {cur W : List (List Int)} (ph : Ph (succM us r) ws c0 k lab0 cur) (F : Nat) (B : Nat) (hB : ∀ dd : List (List Int), dd.Nodup → (∀ u ∈ dd, u ∈ cur) → us.length * dd.length ≤ B) (hW : W.length + cur.length + B ≤ 890000) :
    ∀ (rest dn : List (List Int)) (lab : Lab (List Int)) (nxt : List (List Int)) (kvs : List (List Int × PyData)) (e7 e8 e9 e10 : Option RV), cur = dn ++ rest → In (succM us r) ws c0 parI us.length k lab0 dn lab nxt → Rep us.length kvs lab →
    ∃ (lab' : Lab (List Int)) (nxt' : List (List Int)) (kvs' : List (List Int × PyData)) (e7' e8' e9' e10' : Option RV), loopW costC L1__law_costs (rest.length + F) [some (.d (.tuple (encU us))), some (.d (.int (r : Int))), some (.d (.list (ws.map .int))), some (.d g), some (.ot kvs), some (.ol ((W ++ cur ++ nxt).map tupD)), some (.d (.int ((W.length + dn.length : Nat) : Int))), e7, e8, e9, e10]
      = loopW costC L1__law_costs F [some (.d (.tuple (encU us))), some (.d (.int (r : Int))), some (.d (.list (ws.map .int))), some (.d g), some (.ot kvs'), some (.ol ((W ++ cur ++ nxt').map tupD)), some (.d (.int ((W.length + cur.length : Nat) : Int))), e7', e8', e9', e10']
      ∧ In (succM us r) ws c0 parI us.length k lab0 cur lab' nxt' ∧ Rep us.length kvs' lab'
  | [], dn, lab, nxt, kvs, e7, e8, e9, e10, hc, i, rep => by
    rw [List.append_nil] at hc
    subst hc
    refine ⟨lab, nxt, kvs, e7, e8, e9, e10, ?_, i, rep⟩
    rw [List.length_nil, Nat.zero_add]
  | c :: rest, dn, lab, nxt, kvs, e7, e8, e9, e10, hc, i, rep => by
    have hcm : c ∈ cur := by rw [hc]; simp
    obtain ⟨P, hP⟩ := ph.cr c hcm
    obtain ⟨dd, nd, md, cn⟩ := i.cnt
    have nl : nxt.length ≤ B := Nat.le_trans cn (hB dd nd fun u h => by
      rw [hc]
      exact List.mem_append_left _ ((md u).mp h))
    have ha : (W ++ cur ++ nxt)[W.length + dn.length]? = some c := by
      rw [hc]
      simp
    have hl : W.length + dn.length < (W ++ cur ++ nxt).length := (List.getElem?_eq_some_iff.mp ha).1
    obtain ⟨lab2, nxt2, kvs2, e8', e9', e10', hb, i2, rep2⟩ := costs_turn (g := g) pw hu hul hc0 hc0l hr8 ph.sound hP rfl rep i (W := W ++ cur) (by rw [List.length_append]; omega) ha e7 e8 e9 e10
    obtain ⟨lab3, nxt3, kvs3, j7, j8, j9, j10, ih, i3, rep3⟩ := costs_phase (g := g) pw hu hul hc0 hc0l hr8 ph F B hB hW rest (dn ++ [c]) lab2 nxt2 kvs2 (some (.d (tupD c))) e8' e9' e10' (by rw [hc]; simp) i2 rep2
    refine ⟨lab3, nxt3, kvs3, j7, j8, j9, j10, ?_, i3, rep3⟩
    have hcond : costC [some (.d (.tuple (encU us))), some (.d (.int (r : Int))), some (.d (.list (ws.map .int))), some (.d g), some (.ot kvs), some (.ol ((W ++ cur ++ nxt).map tupD)), some (.d (.int ((W.length + dn.length : Nat) : Int))), e7, e8, e9, e10] = .ok true := by
      have hdec : decide (((W.length + dn.length : Nat) : Int) < (((W ++ cur ++ nxt).length : Nat) : Int)) = true := decide_eq_true (by omega)
      have hml : ((W ++ cur ++ nxt).map tupD).length = (W ++ cur ++ nxt).length := List.length_map ..
      unfold costC
      generalize (W ++ cur ++ nxt).map tupD = WN at *
      generalize ((W.length + dn.length : Nat) : Int) = A at *
      simp only [e_nil, e_seq, e_fz, e_bk, e_ct, e_ret, e_retN, e_drop, e_set, e_if, e_for, e_cC, e_c2, e_c1, e_cA, e_aN, e_aC, e_cB, e_asB, e_bNot, e_bAnd, e_bOr, e_vAnd, e_vOr, e_vNot, e_vIf, e_bYes, e_iL, e_iT, e_iLb, e_iR, e_gL1, e_gL2, e_gL3, e_gT, e_gLb1, e_gLb2, e_gLb3, e_gLb4, e_nb1, e_nb2, e_bor1, e_bor2, e_bor3, e_bor4, e_arg1, e_arg2, e_arg3, e_arg4, e_putd, e_puto, e_toD1, e_toD2, e_allD0, e_allD1, e_allD2, e_gTupl, e_gList, e_tgnm, e_tgtp, e_tg0, e_tg1, e_sq1, e_sq2, e_sq3, e_sq4, e_sq5, e_qv2, e_qv3, e_qv4, e_qv5, e_data1, e_data2, e_data3, e_okI, e_okB, e_i2, e_sub, e_mul, e_mod, e_div, e_pow, e_lt, e_le, e_gt, e_ge, e_neg, e_addI, e_addS, e_addT, e_addL1, e_addL2, e_addL3, e_addL4, e_addL5, e_addL6, e_addL7, e_addL8, e_addL9, e_eq, e_ne, e_in, e_notIn, e_inT, e_inT2, e_inL1, e_inL2, e_inL3, e_is, e_isNot, e_isN1, e_isN2, e_isN3, e_isN4, e_isN5, e_isN6, e_isN7, e_ixT, e_ixL, e_ixO, e_ixB, e_ixSc, e_lenT, e_lenL, e_lenO, e_lenB, e_lenSc, e_lenS, e_tupT, e_tupL, e_tupO, e_tupB, e_lisT, e_lisL, e_lisO, e_lisB, e_min2, e_max2, e_any, e_all, e_sum, e_sorted, e_rev, e_sl, e_oN, e_isi, e_lc, e_wipe0, e_wipe1, e_iA, e_iAb, e_gAq1, e_gAq2, e_gAq3, e_gAqb1, e_gAqb2, e_gAqb3, e_gAqb4, e_no, e_cCh, e_cChI, e_aug, e_decT, e_decF, e_cDispS, e_cDT, e_cDK, e_cDisp1, e_storeA, e_stR1, e_stR2, e_stR3, e_sd1, e_keyD1, e_keyD2, e_keyTD, e_intsD, e_intsD0, e_borT, e_borT2, e_borK, e_borK2, e_argT, e_argT2, e_argK, e_argK2, e_nbT, e_nbK, e_putT, e_putK, e_gAt1, e_gAt2, e_gAt3, e_gAt4, e_gGetDK, e_gGetDT, e_gIxD, e_gInD, e_gNotInD, e_cGet1, e_cGet2, e_dk1, e_dk2, e_dk3, e_dk4, e_dt1, e_dt2, e_del, atI_zero, e_at1, e_at2, e_at3, e_at4, e_at5, e_at6, e_at7, e_at8, e_at9, e_atm, e_V, e_retV, e_unp, e_app, e_store, e_fzE, oS, rsO_some, Rs.bind_ok, Rs.bind_no, Rs.out_ok, Out.then_nx, Out.then_rt, Out.then_ct, Out.then_bk, fin_rt, fin_nx, List.getElem?_cons_zero, List.getElem?_cons_succ, List.set_cons_succ, List.set_cons_zero, List.length_cons, List.length_nil, Nat.reduceAdd, Nat.reduceLT, Nat.reduceLeDiff, Nat.reduceEqDiff, if_true, if_false, Bool.false_eq_true, Bool.not_true, Bool.not_false, and_self, true_and, and_true, List.map_cons, List.map_nil, Option.map_some, sh_int, sh_bool, sh_none, sh_tup, sh_lst, eqv_int, reduceIte, Option.bind_some, Option.bind_none, kitB_ll, kitB_lt, kitB_tt, kitB_tl, kitB_ii, tyD_list, tyD_int, Bool.true_and, Bool.false_and, Bool.and_true, Bool.and_false, Bool.or_true, Bool.true_or, Bool.false_or, Bool.or_false, Bool.and_self, Bool.or_self, e_cAK, List.append_nil, List.nil_append, List.cons_append, e_andB, e_orB, e_andR, e_orR, tyD_tuple, eqv_bool, eqv_none, tyD_bool, tyD_str, tyD_none, kitB_bb, kitB_nb, kitB_bi, kitB_ib, kitB_nl, kitB_nt, beq_self_eq_true, hml, hdec]
    rw [List.length_cons, show rest.length + 1 + F = (rest.length + F) + 1 by omega, loopW_succ, hcond, Rs.out_ok]
    simp only [if_true]
    rw [hb, lp_nx, ← ih]
    have : ((W.length + dn.length : Nat) : Int) + 1 = ((W.length + (dn ++ [c]).length : Nat) : Int) := by rw [List.length_append, List.length_singleton]; omega
    rw [this]
theorem costs_while {us : List (List Int)} {ws : List Int} {r : Nat} {c0 : List Int} {g : PyData} (pw : PrOk ws us.length) (hu : us.length ≤ 8) (hul : ∀ u ∈ us, u.length ≤ 1000) (hc0 : Cf us.length c0) (hc0l : c0.length ≤ 800) (hr8 : r ≤ 800) (K B : Nat) (hK : ∀ q c, Path (succM us r) c0 q c → ∃ b, Path (succM us r) c0 b c ∧ Le2 (pc ws b) (pc ws q) ∧ b.length ≤ K) (hB : us.length * 2 ^ us.length ≤ B) :
    ∀ (j k f : Nat) (lab : Lab (List Int)) (cur W : List (List Int)) (kvs : List (List Int × PyData)) (e7 e8 e9 e10 : Option RV), Ph (succM us r) ws c0 k lab cur → Rep us.length kvs lab → K < k + j → cur.length + j * B < f → W.length + cur.length + j * B + B ≤ 890000 →
    ∃ (k' : Nat) (lab' : Lab (List Int)) (kvs' : List (List Int × PyData)) (j5 j6 j7 j8 j9 j10 : Option RV), loopW costC L1__law_costs f [some (.d (.tuple (encU us))), some (.d (.int (r : Int))), some (.d (.list (ws.map .int))), some (.d g), some (.ot kvs), some (.ol ((W ++ cur).map tupD)), some (.d (.int (W.length : Int))), e7, e8, e9, e10]
      = .nx [some (.d (.tuple (encU us))), some (.d (.int (r : Int))), some (.d (.list (ws.map .int))), some (.d g), some (.ot kvs'), j5, j6, j7, j8, j9, j10] ∧ Ph (succM us r) ws c0 k' lab' [] ∧ Rep us.length kvs' lab' := by
  have fin : ∀ (k f : Nat) (lab : Lab (List Int)) (W : List (List Int)) (kvs : List (List Int × PyData)) (e7 e8 e9 e10 : Option RV), 0 < f → Ph (succM us r) ws c0 k lab [] → Rep us.length kvs lab →
    ∃ (k' : Nat) (lab' : Lab (List Int)) (kvs' : List (List Int × PyData)) (j5 j6 j7 j8 j9 j10 : Option RV), loopW costC L1__law_costs f [some (.d (.tuple (encU us))), some (.d (.int (r : Int))), some (.d (.list (ws.map .int))), some (.d g), some (.ot kvs), some (.ol ((W ++ []).map tupD)), some (.d (.int (W.length : Int))), e7, e8, e9, e10]
      = .nx [some (.d (.tuple (encU us))), some (.d (.int (r : Int))), some (.d (.list (ws.map .int))), some (.d g), some (.ot kvs'), j5, j6, j7, j8, j9, j10] ∧ Ph (succM us r) ws c0 k' lab' [] ∧ Rep us.length kvs' lab' := by
    intro k f lab W kvs e7 e8 e9 e10 hf ph rep
    obtain ⟨f', rfl⟩ : ∃ f', f = f' + 1 := ⟨f - 1, by omega⟩
    refine ⟨k, lab, kvs, some (.ol ((W ++ []).map tupD)), some (.d (.int (W.length : Int))), e7, e8, e9, e10, ?_, ph, rep⟩
    have hcond : costC [some (.d (.tuple (encU us))), some (.d (.int (r : Int))), some (.d (.list (ws.map .int))), some (.d g), some (.ot kvs), some (.ol ((W ++ []).map tupD)), some (.d (.int (W.length : Int))), e7, e8, e9, e10] = .ok false := by
      have hdec : decide ((W.length : Int) < (W.length : Int)) = false := decide_eq_false (by omega)
      have hml : ((W ++ []).map tupD).length = W.length := by rw [List.append_nil, List.length_map]
      unfold costC
      generalize (W ++ []).map tupD = WN at *
      simp only [e_nil, e_seq, e_fz, e_bk, e_ct, e_ret, e_retN, e_drop, e_set, e_if, e_for, e_cC, e_c2, e_c1, e_cA, e_aN, e_aC, e_cB, e_asB, e_bNot, e_bAnd, e_bOr, e_vAnd, e_vOr, e_vNot, e_vIf, e_bYes, e_iL, e_iT, e_iLb, e_iR, e_gL1, e_gL2, e_gL3, e_gT, e_gLb1, e_gLb2, e_gLb3, e_gLb4, e_nb1, e_nb2, e_bor1, e_bor2, e_bor3, e_bor4, e_arg1, e_arg2, e_arg3, e_arg4, e_putd, e_puto, e_toD1, e_toD2, e_allD0, e_allD1, e_allD2, e_gTupl, e_gList, e_tgnm, e_tgtp, e_tg0, e_tg1, e_sq1, e_sq2, e_sq3, e_sq4, e_sq5, e_qv2, e_qv3, e_qv4, e_qv5, e_data1, e_data2, e_data3, e_okI, e_okB, e_i2, e_sub, e_mul, e_mod, e_div, e_pow, e_lt, e_le, e_gt, e_ge, e_neg, e_addI, e_addS, e_addT, e_addL1, e_addL2, e_addL3, e_addL4, e_addL5, e_addL6, e_addL7, e_addL8, e_addL9, e_eq, e_ne, e_in, e_notIn, e_inT, e_inT2, e_inL1, e_inL2, e_inL3, e_is, e_isNot, e_isN1, e_isN2, e_isN3, e_isN4, e_isN5, e_isN6, e_isN7, e_ixT, e_ixL, e_ixO, e_ixB, e_ixSc, e_lenT, e_lenL, e_lenO, e_lenB, e_lenSc, e_lenS, e_tupT, e_tupL, e_tupO, e_tupB, e_lisT, e_lisL, e_lisO, e_lisB, e_min2, e_max2, e_any, e_all, e_sum, e_sorted, e_rev, e_sl, e_oN, e_isi, e_lc, e_wipe0, e_wipe1, e_iA, e_iAb, e_gAq1, e_gAq2, e_gAq3, e_gAqb1, e_gAqb2, e_gAqb3, e_gAqb4, e_no, e_cCh, e_cChI, e_aug, e_decT, e_decF, e_cDispS, e_cDT, e_cDK, e_cDisp1, e_storeA, e_stR1, e_stR2, e_stR3, e_sd1, e_keyD1, e_keyD2, e_keyTD, e_intsD, e_intsD0, e_borT, e_borT2, e_borK, e_borK2, e_argT, e_argT2, e_argK, e_argK2, e_nbT, e_nbK, e_putT, e_putK, e_gAt1, e_gAt2, e_gAt3, e_gAt4, e_gGetDK, e_gGetDT, e_gIxD, e_gInD, e_gNotInD, e_cGet1, e_cGet2, e_dk1, e_dk2, e_dk3, e_dk4, e_dt1, e_dt2, e_del, atI_zero, e_at1, e_at2, e_at3, e_at4, e_at5, e_at6, e_at7, e_at8, e_at9, e_atm, e_V, e_retV, e_unp, e_app, e_store, e_fzE, oS, rsO_some, Rs.bind_ok, Rs.bind_no, Rs.out_ok, Out.then_nx, Out.then_rt, Out.then_ct, Out.then_bk, fin_rt, fin_nx, List.getElem?_cons_zero, List.getElem?_cons_succ, List.set_cons_succ, List.set_cons_zero, List.length_cons, List.length_nil, Nat.reduceAdd, Nat.reduceLT, Nat.reduceLeDiff, Nat.reduceEqDiff, if_true, if_false, Bool.false_eq_true, Bool.not_true, Bool.not_false, and_self, true_and, and_true, List.map_cons, List.map_nil, Option.map_some, sh_int, sh_bool, sh_none, sh_tup, sh_lst, eqv_int, reduceIte, Option.bind_some, Option.bind_none, kitB_ll, kitB_lt, kitB_tt, kitB_tl, kitB_ii, tyD_list, tyD_int, Bool.true_and, Bool.false_and, Bool.and_true, Bool.and_false, Bool.or_true, Bool.true_or, Bool.false_or, Bool.or_false, Bool.and_self, Bool.or_self, e_cAK, List.append_nil, List.nil_append, List.cons_append, e_andB, e_orB, e_andR, e_orR, tyD_tuple, eqv_bool, eqv_none, tyD_bool, tyD_str, tyD_none, kitB_bb, kitB_nb, kitB_bi, kitB_ib, kitB_nl, kitB_nt, beq_self_eq_true, hml, hdec]
    rw [loopW_succ, hcond, Rs.out_ok]
    rfl
  intro j
  induction j with
  | zero =>
    intro k f lab cur W kvs e7 e8 e9 e10 ph rep hk hf hz
    have : cur = [] := by
      cases cur with
      | nil => rfl
      | cons c cs =>
        have := ph.stop hK (by simp)
        omega
    subst this
    exact fin k f lab W kvs e7 e8 e9 e10 (by omega) ph rep
  | succ j ih =>
    intro k f lab cur W kvs e7 e8 e9 e10 ph rep hk hf hz
    by_cases hc : cur = []
    · subst hc
      exact fin k f lab W kvs e7 e8 e9 e10 (by omega) ph rep
    · obtain ⟨F, rfl⟩ : ∃ F, f = cur.length + F := ⟨f - cur.length, by omega⟩
      have hs : (j + 1) * B = j * B + B := Nat.succ_mul j B
      have hBB : ∀ dd : List (List Int), dd.Nodup → (∀ u ∈ dd, u ∈ cur) → us.length * dd.length ≤ B := fun dd nd hm => by
        have := cf_count us.length dd nd fun u hu' => by
          obtain ⟨P, hP⟩ := ph.cr u (hm u hu')
          obtain ⟨p, hp, _⟩ := ph.sound _ _ hP
          exact hc0.path hp
        exact Nat.le_trans (Nat.mul_le_mul_left _ this) hB
      obtain ⟨lab2, nxt2, kvs2, j7, j8, j9, j10, hl, i2, rep2⟩ := costs_phase (g := g) pw hu hul hc0 hc0l hr8 ph F B hBB (W := W) (by omega) cur [] lab [] kvs e7 e8 e9 e10 rfl (In.first ph) rep
      obtain ⟨dd, nd, md, cn⟩ := i2.cnt
      have nl : nxt2.length ≤ B := Nat.le_trans cn (hBB dd nd fun u h => (md u).mp h)
      obtain ⟨k', lab3, kvs3, i5, i6, i7, i8, i9, i10, h3, p3, r3⟩ := ih (k + 1) F lab2 nxt2 (W ++ cur) kvs2 j7 j8 j9 j10 (i2.next ph) rep2 (by omega) (by omega) (by rw [List.length_append]; omega)
      refine ⟨k', lab3, kvs3, i5, i6, i7, i8, i9, i10, ?_, p3, r3⟩
      rw [← h3]
      rw [List.append_nil, List.length_nil, Nat.add_zero] at hl
      rw [hl, List.length_append]
/-- the table of prices that the law makes -/
theorem costs_ok {us : List (List Int)} {ws : List Int} (r : Nat) {c0 : List Int} (pw : PrOk ws us.length) (hu : us.length ≤ 6) (hul : ∀ u ∈ us, u.length ≤ 1000) (hc0 : Cf us.length c0) (hc0l : c0.length ≤ 800) (hr8 : r ≤ 800) :
    ∃ (kvs : List (List Int × PyData)) (lab : Lab (List Int)), F__law_costs [.d (.tuple (encU us)), .d (.int (r : Int)), .d (.list (ws.map .int)), .d (tupD c0)] = .ok (.ot kvs) ∧ Rep us.length kvs lab ∧
      (c0.length ≤ r → ∀ T, WTab (succM us r) ws c0 T → LTab (ws := ws) T lab) ∧ (¬ c0.length ≤ r → lab = fun _ => none) := by
  obtain ⟨T, ht, hTl⟩ := wtab_ex r pw hc0
  have h26 : 2 ^ us.length ≤ 2 ^ 6 := Nat.pow_le_pow_right (by omega) hu
  have hB : us.length * 2 ^ us.length ≤ 384 := Nat.le_trans (Nat.mul_le_mul hu h26) (by decide)
  have hK : ∀ q c, Path (succM us r) c0 q c → ∃ b, Path (succM us r) c0 b c ∧ Le2 (pc ws b) (pc ws q) ∧ b.length ≤ 64 := fun q c hq => by
    have h1 := ht.all q c hq
    cases e : tget T c with
    | none => rw [e] at h1; cases h1
    | some b =>
      have hb := ht.best c b e
      have := ht.len _ (tget_mem e)
      simp only at this
      exact ⟨b, hb.path, KL.le2 (hb.least q hq), by omega⟩
  have hln : gLen [.d (tupD c0)] = .ok (.d (.int c0.length)) := by rw [tupD, e_lenT, List.length_map]
  have hk : keyTD (tupD c0) = some c0 := intsD_map c0
  have hcw : cB (c2 gLt (cV 6) (cA gLen (aC (cV 5) aN))) = costC := rfl
  by_cases c : c0.length ≤ r
  · have rep0 : Rep us.length [(c0, encL (0, 0))] (putL (fun _ => none) c0 (0, 0)) := ⟨fun d => by
      rw [dGet_cons]
      by_cases z : d = c0
      · rw [if_pos z.symm, z, putL_same]; rfl
      · rw [if_neg (fun y => z y.symm), putL_ne _ _ z]; rfl, by simp, fun e he => by rw [List.mem_singleton.mp he]; exact hc0⟩
    obtain ⟨k', lab, kvs, j5, j6, j7, j8, j9, j10, hw, ph, rep⟩ := costs_while (g := tupD c0) pw (by omega) hul hc0 hc0l hr8 64 384 hK hB 65 0 100000 _ [c0] [] _ none none none none Ph.first rep0 (by omega) (by simp) (by simp)
    refine ⟨kvs, lab, ?_, rep, fun _ T ht => ph.tab ht, fun h => absurd c h⟩
    have hdec : decide ((c0.length : Int) ≤ (r : Int)) = true := decide_eq_true (by omega)
    have e1 : (([] : List (List Int)) ++ [c0]).map tupD = [tupD c0] := rfl
    rw [e1] at hw
    have hw : loopW costC L1__law_costs 100000 [some (.d (.tuple (encU us))), some (.d (.int (r : Int))), some (.d (.list (ws.map .int))), some (.d (tupD c0)), some (.ot [(c0, .tuple [.int 0, .int 0])]), some (.ol [tupD c0]), some (.d (.int 0)), none, none, none, none] = _ := hw
    have hlist : gListK [.bt [(c0, .tuple [.int 0, .int 0])]] = .ok (.ol [tupD c0]) := rfl
    have hput : dPut ([] : List (List Int × PyData)) c0 (.tuple [.int 0, .int 0]) = [(c0, .tuple [.int 0, .int 0])] := rfl
    show (sSeq _ _ [some (.d (.tuple (encU us))), some (.d (.int (r : Int))), some (.d (.list (ws.map .int))), some (.d (tupD c0)), none, none, none, none, none, none, none]).fin = _
    generalize encU us = EU at *
    generalize ws.map PyData.int = WS at *
    generalize tupD c0 = TC at *
    simp only [e_nil, e_seq, e_fz, e_bk, e_ct, e_ret, e_retN, e_drop, e_set, e_if, e_for, e_cC, e_c2, e_c1, e_cA, e_aN, e_aC, e_cB, e_asB, e_bNot, e_bAnd, e_bOr, e_vAnd, e_vOr, e_vNot, e_vIf, e_bYes, e_iL, e_iT, e_iLb, e_iR, e_gL1, e_gL2, e_gL3, e_gT, e_gLb1, e_gLb2, e_gLb3, e_gLb4, e_nb1, e_nb2, e_bor1, e_bor2, e_bor3, e_bor4, e_arg1, e_arg2, e_arg3, e_arg4, e_putd, e_puto, e_toD1, e_toD2, e_allD0, e_allD1, e_allD2, e_gTupl, e_gList, e_tgnm, e_tgtp, e_tg0, e_tg1, e_sq1, e_sq2, e_sq3, e_sq4, e_sq5, e_qv2, e_qv3, e_qv4, e_qv5, e_data1, e_data2, e_data3, e_okI, e_okB, e_i2, e_sub, e_mul, e_mod, e_div, e_pow, e_lt, e_le, e_gt, e_ge, e_neg, e_addI, e_addS, e_addT, e_addL1, e_addL2, e_addL3, e_addL4, e_addL5, e_addL6, e_addL7, e_addL8, e_addL9, e_eq, e_ne, e_in, e_notIn, e_inT, e_inT2, e_inL1, e_inL2, e_inL3, e_is, e_isNot, e_isN1, e_isN2, e_isN3, e_isN4, e_isN5, e_isN6, e_isN7, e_ixT, e_ixL, e_ixO, e_ixB, e_ixSc, e_lenT, e_lenL, e_lenO, e_lenB, e_lenSc, e_lenS, e_tupT, e_tupL, e_tupO, e_tupB, e_lisT, e_lisL, e_lisO, e_lisB, e_min2, e_max2, e_any, e_all, e_sum, e_sorted, e_rev, e_sl, e_oN, e_isi, e_lc, e_wipe0, e_wipe1, e_iA, e_iAb, e_gAq1, e_gAq2, e_gAq3, e_gAqb1, e_gAqb2, e_gAqb3, e_gAqb4, e_no, e_cCh, e_cChI, e_aug, e_decT, e_decF, e_cDispS, e_cDT, e_cDK, e_cDisp1, e_storeA, e_stR1, e_stR2, e_stR3, e_sd1, e_keyD1, e_keyD2, e_keyTD, e_intsD, e_intsD0, e_borT, e_borT2, e_borK, e_borK2, e_argT, e_argT2, e_argK, e_argK2, e_nbT, e_nbK, e_putT, e_putK, e_gAt1, e_gAt2, e_gAt3, e_gAt4, e_gGetDK, e_gGetDT, e_gIxD, e_gInD, e_gNotInD, e_cGet1, e_cGet2, e_dk1, e_dk2, e_dk3, e_dk4, e_dt1, e_dt2, e_del, atI_zero, e_at1, e_at2, e_at3, e_at4, e_at5, e_at6, e_at7, e_at8, e_at9, e_atm, e_V, e_retV, e_unp, e_app, e_store, e_fzE, oS, rsO_some, Rs.bind_ok, Rs.bind_no, Rs.out_ok, Out.then_nx, Out.then_rt, Out.then_ct, Out.then_bk, fin_rt, fin_nx, List.getElem?_cons_zero, List.getElem?_cons_succ, List.set_cons_succ, List.set_cons_zero, List.length_cons, List.length_nil, Nat.reduceAdd, Nat.reduceLT, Nat.reduceLeDiff, Nat.reduceEqDiff, if_true, if_false, Bool.false_eq_true, Bool.not_true, Bool.not_false, and_self, true_and, and_true, List.map_cons, List.map_nil, Option.map_some, sh_int, sh_bool, sh_none, sh_tup, sh_lst, eqv_int, reduceIte, Option.bind_some, Option.bind_none, kitB_ll, kitB_lt, kitB_tt, kitB_tl, kitB_ii, tyD_list, tyD_int, Bool.true_and, Bool.false_and, Bool.and_true, Bool.and_false, Bool.or_true, Bool.true_or, Bool.false_or, Bool.or_false, Bool.and_self, Bool.or_self, e_cAK, List.append_nil, List.nil_append, List.cons_append, e_andB, e_orB, e_andR, e_orR, tyD_tuple, eqv_bool, eqv_none, tyD_bool, tyD_str, tyD_none, kitB_bb, kitB_nb, kitB_bi, kitB_ib, kitB_nl, kitB_nt, beq_self_eq_true, hln, hdec, hk, hput, hlist, e_while, hcw, hw]
  · have rep0 : Rep us.length [] (fun _ => none) := ⟨fun d => rfl, List.nodup_nil, fun e he => (by cases he)⟩
    refine ⟨[], _, ?_, rep0, fun h => absurd h c, fun _ => rfl⟩
    have hdec : decide ((c0.length : Int) ≤ (r : Int)) = false := decide_eq_false (by omega)
    have hlist : gListK [.bt []] = .ok (.ol []) := rfl
    have hw : loopW costC L1__law_costs 100000 [some (.d (.tuple (encU us))), some (.d (.int (r : Int))), some (.d (.list (ws.map .int))), some (.d (tupD c0)), some (.ot []), some (.ol []), some (.d (.int 0)), none, none, none, none] = .nx [some (.d (.tuple (encU us))), some (.d (.int (r : Int))), some (.d (.list (ws.map .int))), some (.d (tupD c0)), some (.ot []), some (.ol []), some (.d (.int 0)), none, none, none, none] := by
      rw [show (100000 : Nat) = 99999 + 1 from rfl, loopW_succ]
      have hcond : costC [some (.d (.tuple (encU us))), some (.d (.int (r : Int))), some (.d (.list (ws.map .int))), some (.d (tupD c0)), some (.ot []), some (.ol []), some (.d (.int 0)), none, none, none, none] = .ok false := by
        unfold costC
        have hd : decide ((0 : Int) < 0) = false := by decide
        simp only [e_nil, e_seq, e_fz, e_bk, e_ct, e_ret, e_retN, e_drop, e_set, e_if, e_for, e_cC, e_c2, e_c1, e_cA, e_aN, e_aC, e_cB, e_asB, e_bNot, e_bAnd, e_bOr, e_vAnd, e_vOr, e_vNot, e_vIf, e_bYes, e_iL, e_iT, e_iLb, e_iR, e_gL1, e_gL2, e_gL3, e_gT, e_gLb1, e_gLb2, e_gLb3, e_gLb4, e_nb1, e_nb2, e_bor1, e_bor2, e_bor3, e_bor4, e_arg1, e_arg2, e_arg3, e_arg4, e_putd, e_puto, e_toD1, e_toD2, e_allD0, e_allD1, e_allD2, e_gTupl, e_gList, e_tgnm, e_tgtp, e_tg0, e_tg1, e_sq1, e_sq2, e_sq3, e_sq4, e_sq5, e_qv2, e_qv3, e_qv4, e_qv5, e_data1, e_data2, e_data3, e_okI, e_okB, e_i2, e_sub, e_mul, e_mod, e_div, e_pow, e_lt, e_le, e_gt, e_ge, e_neg, e_addI, e_addS, e_addT, e_addL1, e_addL2, e_addL3, e_addL4, e_addL5, e_addL6, e_addL7, e_addL8, e_addL9, e_eq, e_ne, e_in, e_notIn, e_inT, e_inT2, e_inL1, e_inL2, e_inL3, e_is, e_isNot, e_isN1, e_isN2, e_isN3, e_isN4, e_isN5, e_isN6, e_isN7, e_ixT, e_ixL, e_ixO, e_ixB, e_ixSc, e_lenT, e_lenL, e_lenO, e_lenB, e_lenSc, e_lenS, e_tupT, e_tupL, e_tupO, e_tupB, e_lisT, e_lisL, e_lisO, e_lisB, e_min2, e_max2, e_any, e_all, e_sum, e_sorted, e_rev, e_sl, e_oN, e_isi, e_lc, e_wipe0, e_wipe1, e_iA, e_iAb, e_gAq1, e_gAq2, e_gAq3, e_gAqb1, e_gAqb2, e_gAqb3, e_gAqb4, e_no, e_cCh, e_cChI, e_aug, e_decT, e_decF, e_cDispS, e_cDT, e_cDK, e_cDisp1, e_storeA, e_stR1, e_stR2, e_stR3, e_sd1, e_keyD1, e_keyD2, e_keyTD, e_intsD, e_intsD0, e_borT, e_borT2, e_borK, e_borK2, e_argT, e_argT2, e_argK, e_argK2, e_nbT, e_nbK, e_putT, e_putK, e_gAt1, e_gAt2, e_gAt3, e_gAt4, e_gGetDK, e_gGetDT, e_gIxD, e_gInD, e_gNotInD, e_cGet1, e_cGet2, e_dk1, e_dk2, e_dk3, e_dk4, e_dt1, e_dt2, e_del, atI_zero, e_at1, e_at2, e_at3, e_at4, e_at5, e_at6, e_at7, e_at8, e_at9, e_atm, e_V, e_retV, e_unp, e_app, e_store, e_fzE, oS, rsO_some, Rs.bind_ok, Rs.bind_no, Rs.out_ok, Out.then_nx, Out.then_rt, Out.then_ct, Out.then_bk, fin_rt, fin_nx, List.getElem?_cons_zero, List.getElem?_cons_succ, List.set_cons_succ, List.set_cons_zero, List.length_cons, List.length_nil, Nat.reduceAdd, Nat.reduceLT, Nat.reduceLeDiff, Nat.reduceEqDiff, if_true, if_false, Bool.false_eq_true, Bool.not_true, Bool.not_false, and_self, true_and, and_true, List.map_cons, List.map_nil, Option.map_some, sh_int, sh_bool, sh_none, sh_tup, sh_lst, eqv_int, reduceIte, Option.bind_some, Option.bind_none, kitB_ll, kitB_lt, kitB_tt, kitB_tl, kitB_ii, tyD_list, tyD_int, Bool.true_and, Bool.false_and, Bool.and_true, Bool.and_false, Bool.or_true, Bool.true_or, Bool.false_or, Bool.or_false, Bool.and_self, Bool.or_self, e_cAK, List.append_nil, List.nil_append, List.cons_append, e_andB, e_orB, e_andR, e_orR, tyD_tuple, eqv_bool, eqv_none, tyD_bool, tyD_str, tyD_none, kitB_bb, kitB_nb, kitB_bi, kitB_ib, kitB_nl, kitB_nt, beq_self_eq_true, Int.natCast_zero, hd]
      rw [hcond, Rs.out_ok]
      rfl
    show (sSeq _ _ [some (.d (.tuple (encU us))), some (.d (.int (r : Int))), some (.d (.list (ws.map .int))), some (.d (tupD c0)), none, none, none, none, none, none, none]).fin = _
    generalize encU us = EU at *
    generalize ws.map PyData.int = WS at *
    generalize tupD c0 = TC at *
    simp only [e_nil, e_seq, e_fz, e_bk, e_ct, e_ret, e_retN, e_drop, e_set, e_if, e_for, e_cC, e_c2, e_c1, e_cA, e_aN, e_aC, e_cB, e_asB, e_bNot, e_bAnd, e_bOr, e_vAnd, e_vOr, e_vNot, e_vIf, e_bYes, e_iL, e_iT, e_iLb, e_iR, e_gL1, e_gL2, e_gL3, e_gT, e_gLb1, e_gLb2, e_gLb3, e_gLb4, e_nb1, e_nb2, e_bor1, e_bor2, e_bor3, e_bor4, e_arg1, e_arg2, e_arg3, e_arg4, e_putd, e_puto, e_toD1, e_toD2, e_allD0, e_allD1, e_allD2, e_gTupl, e_gList, e_tgnm, e_tgtp, e_tg0, e_tg1, e_sq1, e_sq2, e_sq3, e_sq4, e_sq5, e_qv2, e_qv3, e_qv4, e_qv5, e_data1, e_data2, e_data3, e_okI, e_okB, e_i2, e_sub, e_mul, e_mod, e_div, e_pow, e_lt, e_le, e_gt, e_ge, e_neg, e_addI, e_addS, e_addT, e_addL1, e_addL2, e_addL3, e_addL4, e_addL5, e_addL6, e_addL7, e_addL8, e_addL9, e_eq, e_ne, e_in, e_notIn, e_inT, e_inT2, e_inL1, e_inL2, e_inL3, e_is, e_isNot, e_isN1, e_isN2, e_isN3, e_isN4, e_isN5, e_isN6, e_isN7, e_ixT, e_ixL, e_ixO, e_ixB, e_ixSc, e_lenT, e_lenL, e_lenO, e_lenB, e_lenSc, e_lenS, e_tupT, e_tupL, e_tupO, e_tupB, e_lisT, e_lisL, e_lisO, e_lisB, e_min2, e_max2, e_any, e_all, e_sum, e_sorted, e_rev, e_sl, e_oN, e_isi, e_lc, e_wipe0, e_wipe1, e_iA, e_iAb, e_gAq1, e_gAq2, e_gAq3, e_gAqb1, e_gAqb2, e_gAqb3, e_gAqb4, e_no, e_cCh, e_cChI, e_aug, e_decT, e_decF, e_cDispS, e_cDT, e_cDK, e_cDisp1, e_storeA, e_stR1, e_stR2, e_stR3, e_sd1, e_keyD1, e_keyD2, e_keyTD, e_intsD, e_intsD0, e_borT, e_borT2, e_borK, e_borK2, e_argT, e_argT2, e_argK, e_argK2, e_nbT, e_nbK, e_putT, e_putK, e_gAt1, e_gAt2, e_gAt3, e_gAt4, e_gGetDK, e_gGetDT, e_gIxD, e_gInD, e_gNotInD, e_cGet1, e_cGet2, e_dk1, e_dk2, e_dk3, e_dk4, e_dt1, e_dt2, e_del, atI_zero, e_at1, e_at2, e_at3, e_at4, e_at5, e_at6, e_at7, e_at8, e_at9, e_atm, e_V, e_retV, e_unp, e_app, e_store, e_fzE, oS, rsO_some, Rs.bind_ok, Rs.bind_no, Rs.out_ok, Out.then_nx, Out.then_rt, Out.then_ct, Out.then_bk, fin_rt, fin_nx, List.getElem?_cons_zero, List.getElem?_cons_succ, List.set_cons_succ, List.set_cons_zero, List.length_cons, List.length_nil, Nat.reduceAdd, Nat.reduceLT, Nat.reduceLeDiff, Nat.reduceEqDiff, if_true, if_false, Bool.false_eq_true, Bool.not_true, Bool.not_false, and_self, true_and, and_true, List.map_cons, List.map_nil, Option.map_some, sh_int, sh_bool, sh_none, sh_tup, sh_lst, eqv_int, reduceIte, Option.bind_some, Option.bind_none, kitB_ll, kitB_lt, kitB_tt, kitB_tl, kitB_ii, tyD_list, tyD_int, Bool.true_and, Bool.false_and, Bool.and_true, Bool.and_false, Bool.or_true, Bool.true_or, Bool.false_or, Bool.or_false, Bool.and_self, Bool.or_self, e_cAK, List.append_nil, List.nil_append, List.cons_append, e_andB, e_orB, e_andR, e_orR, tyD_tuple, eqv_bool, eqv_none, tyD_bool, tyD_str, tyD_none, kitB_bb, kitB_nb, kitB_bi, kitB_ib, kitB_nl, kitB_nt, beq_self_eq_true, hln, hdec, hlist, e_while, hcw, hw]
theorem tg_encT (us : List (List Int)) (ts : List Int) (i j : Nat) (env : VEnv) : tgE (.tp [i, j]) (encT us ts) env = tgEs [i, j] [.tuple (encU us), tupD ts] env := rfl
theorem kd_tup (h : List Int) : keyTD (tupD h) = some h := intsD_map h
theorem len_tupD (h : List Int) : gLen [.d (tupD h)] = .ok (.d (.int h.length)) := by rw [tupD, e_lenT, List.length_map]
theorem sh_tupD (h : List Int) : SeqAt.shaped (tupD h) = true := sh_tup _
theorem eqv_tupD (h g : List Int) : PyData.eqv (tupD h) (tupD g) = decide (h = g) := eqv_tup _ _
theorem cf_nil (n : Nat) : Cf n [] := ⟨.nil, by simp⟩
theorem draw1 (ns : List Int) (k n : Nat) (h : 0 < n ∧ n < 1000000) : ∃ d : Nat, F__law_draw [.sc ns, .d (.int k), .d (.list [.int n])] = .ok (.ol [.int d]) ∧ d < n := by
  obtain ⟨nd, p, l, b⟩ := draw_nat ns k [n] (by simpa using h) (by simp)
  obtain ⟨d, rfl⟩ : ∃ a, nd = [a] := by match nd, l with | [a], _ => exact ⟨a, rfl⟩
  obtain ⟨d', q, b⟩ := b 0 n rfl
  cases q
  exact ⟨d, p, b⟩
/-! ### the drawn prices -/
theorem prices_ok (ns : List Int) (k n : Nat) (hn : n ≤ 8) : ∃ ws : List Int, F__law_prices [.sc ns, .d (.int (k : Int)), .d (.int (n : Int))] = .ok (.ol (ws.map .int)) ∧ PrOk ws n := by
  obtain ⟨nd, e1, hl, hb⟩ := draw_nat ns k [4, 1000, 1000, 1000, 1000, 1000, 1000, 1000, 1000] (by
    intro s hs
    simp only [List.mem_cons, List.not_mem_nil, or_false] at hs
    omega) (by simp)
  obtain ⟨d0, q0, b0⟩ := hb 0 4 rfl
  have a0 : atI (nd.map natI) 0 = some (.int (d0 : Int)) := atI_nats (i := 0) q0
  have e1 : F__law_draw [.sc ns, .d (.int (k : Int)), .d (.list [.int 4, .int 1000, .int 1000, .int 1000, .int 1000, .int 1000, .int 1000, .int 1000, .int 1000])] = .ok (.ol (nd.map natI)) := e1
  obtain ⟨env', h1, ws, j5, rfl, hwl, hwb⟩ := loopF_ex (tg := .nm 5) (f := L0__law_prices) (fun i env => ∃ (ws : List Int) (j5 : Option RV), env = [some (.sc ns), some (.d (.int (k : Int))), some (.d (.int (n : Int))), some (.ol (nd.map natI)), some (.ol (ws.map .int)), j5] ∧ ws.length = i ∧ ∀ x ∈ ws, 0 < x ∧ x ≤ 1000) natI (List.range n)
    [some (.sc ns), some (.d (.int (k : Int))), some (.d (.int (n : Int))), some (.ol (nd.map natI)), some (.ol []), none] (by
    rintro i env x hx ⟨ws, j5, rfl, hwl, hwb⟩
    obtain ⟨rfl, hi⟩ := range_at hx
    obtain ⟨d, q, b⟩ := hb (1 + x) 1000 (by
      have : x = 0 ∨ x = 1 ∨ x = 2 ∨ x = 3 ∨ x = 4 ∨ x = 5 ∨ x = 6 ∨ x = 7 := by omega
      rcases this with rfl | rfl | rfl | rfl | rfl | rfl | rfl | rfl <;> rfl)
    have a1 : atI (nd.map natI) (1 + (x : Int)) = some (.int (d : Int)) := by
      rw [show 1 + (x : Int) = ((1 + x : Nat) : Int) by omega]
      exact atI_nats q
    obtain ⟨v, hv, v0, v1⟩ : ∃ v : Int, atI [PyData.int (d : Int), .int ((d : Int) % 3), .int ((d : Int) % 9), .int 0] (d0 : Int) = some (.int v) ∧ 0 ≤ v ∧ v ≤ 999 := by
      have : d0 = 0 ∨ d0 = 1 ∨ d0 = 2 ∨ d0 = 3 := by omega
      rcases this with rfl | rfl | rfl | rfl
      · exact ⟨d, rfl, by omega, by omega⟩
      · exact ⟨(d : Int) % 3, rfl, by omega, by omega⟩
      · exact ⟨(d : Int) % 9, rfl, by omega, by omega⟩
      · exact ⟨0, rfl, by omega, by omega⟩
    have hz : (ws.map PyData.int).length ≤ 1000000 := by rw [List.length_map]; omega
    have m3 : (0 : Int) < 3 := by decide
    have m9 : (0 : Int) < 9 := by decide
    refine ⟨[some (.sc ns), some (.d (.int (k : Int))), some (.d (.int (n : Int))), some (.ol (nd.map natI)), some (.ol (ws.map .int)), some (.d (.int (x : Int)))], rfl, _, .inl ?_, ws ++ [1 + v], some (.d (.int (x : Int))), rfl, by rw [List.length_append, List.length_singleton, hwl], fun y hy => ?_⟩
    · have am : (ws ++ [1 + v]).map PyData.int = ws.map .int ++ [.int (1 + v)] := by simp
      rw [am]
      unfold L0__law_prices
      generalize nd.map natI = ND at *
      generalize ws.map PyData.int = WW at *
      simp only [e_nil, e_seq, e_fz, e_bk, e_ct, e_ret, e_retN, e_drop, e_set, e_if, e_for, e_cC, e_c2, e_c1, e_cA, e_aN, e_aC, e_cB, e_asB, e_bNot, e_bAnd, e_bOr, e_vAnd, e_vOr, e_vNot, e_vIf, e_bYes, e_iL, e_iT, e_iLb, e_iR, e_gL1, e_gL2, e_gL3, e_gT, e_gLb1, e_gLb2, e_gLb3, e_gLb4, e_nb1, e_nb2, e_bor1, e_bor2, e_bor3, e_bor4, e_arg1, e_arg2, e_arg3, e_arg4, e_putd, e_puto, e_toD1, e_toD2, e_allD0, e_allD1, e_allD2, e_gTupl, e_gList, e_tgnm, e_tgtp, e_tg0, e_tg1, e_sq1, e_sq2, e_sq3, e_sq4, e_sq5, e_qv2, e_qv3, e_qv4, e_qv5, e_data1, e_data2, e_data3, e_okI, e_okB, e_i2, e_sub, e_mul, e_mod, e_div, e_pow, e_lt, e_le, e_gt, e_ge, e_neg, e_addI, e_addS, e_addT, e_addL1, e_addL2, e_addL3, e_addL4, e_addL5, e_addL6, e_addL7, e_addL8, e_addL9, e_eq, e_ne, e_in, e_notIn, e_inT, e_inT2, e_inL1, e_inL2, e_inL3, e_is, e_isNot, e_isN1, e_isN2, e_isN3, e_isN4, e_isN5, e_isN6, e_isN7, e_ixT, e_ixL, e_ixO, e_ixB, e_ixSc, e_lenT, e_lenL, e_lenO, e_lenB, e_lenSc, e_lenS, e_tupT, e_tupL, e_tupO, e_tupB, e_lisT, e_lisL, e_lisO, e_lisB, e_min2, e_max2, e_any, e_all, e_sum, e_sorted, e_rev, e_sl, e_oN, e_isi, e_lc, e_wipe0, e_wipe1, e_iA, e_iAb, e_gAq1, e_gAq2, e_gAq3, e_gAqb1, e_gAqb2, e_gAqb3, e_gAqb4, e_no, e_cCh, e_cChI, e_aug, e_decT, e_decF, e_cDispS, e_cDT, e_cDK, e_cDisp1, e_storeA, e_stR1, e_stR2, e_stR3, e_sd1, e_keyD1, e_keyD2, e_keyTD, e_intsD, e_intsD0, e_borT, e_borT2, e_borK, e_borK2, e_argT, e_argT2, e_argK, e_argK2, e_nbT, e_nbK, e_putT, e_putK, e_gAt1, e_gAt2, e_gAt3, e_gAt4, e_gGetDK, e_gGetDT, e_gIxD, e_gInD, e_gNotInD, e_cGet1, e_cGet2, e_dk1, e_dk2, e_dk3, e_dk4, e_dt1, e_dt2, e_del, atI_zero, e_at1, e_at2, e_at3, e_at4, e_at5, e_at6, e_at7, e_at8, e_at9, e_atm, e_V, e_retV, e_unp, e_app, e_store, e_fzE, oS, rsO_some, Rs.bind_ok, Rs.bind_no, Rs.out_ok, Out.then_nx, Out.then_rt, Out.then_ct, Out.then_bk, fin_rt, fin_nx, List.getElem?_cons_zero, List.getElem?_cons_succ, List.set_cons_succ, List.set_cons_zero, List.length_cons, List.length_nil, Nat.reduceAdd, Nat.reduceLT, Nat.reduceLeDiff, Nat.reduceEqDiff, if_true, if_false, Bool.false_eq_true, Bool.not_true, Bool.not_false, and_self, true_and, and_true, List.map_cons, List.map_nil, Option.map_some, sh_int, sh_bool, sh_none, sh_tup, sh_lst, eqv_int, reduceIte, Option.bind_some, Option.bind_none, kitB_ll, kitB_lt, kitB_tt, kitB_tl, kitB_ii, tyD_list, tyD_int, Bool.true_and, Bool.false_and, Bool.and_true, Bool.and_false, Bool.or_true, Bool.true_or, Bool.false_or, Bool.or_false, Bool.and_self, Bool.or_self, e_cAK, List.append_nil, List.nil_append, List.cons_append, e_andB, e_orB, e_andR, e_orR, tyD_tuple, eqv_bool, eqv_none, tyD_bool, tyD_str, tyD_none, kitB_bb, kitB_nb, kitB_bi, kitB_ib, kitB_nl, kitB_nt, beq_self_eq_true, a0, a1, if_pos m3, if_pos m9, hv, if_pos hz]
    · rcases List.mem_append.mp hy with hy | hy
      · exact hwb y hy
      · rw [List.mem_singleton.mp hy]; omega) ⟨[], none, rfl, rfl, fun x hx => (by cases hx)⟩
  refine ⟨ws, ?_, ⟨by rw [hwl, List.length_range], hwb⟩⟩
  have hrn := e_R1n (n := n) (by omega)
  rw [rng_nat] at hrn
  have hrep : gRep (.ol [.int 1000]) (.d (.int 8)) = .ok (.ol [.int 1000, .int 1000, .int 1000, .int 1000, .int 1000, .int 1000, .int 1000, .int 1000]) := by
    rw [e_rep rfl (by omega) (by simp)]
    rfl
  show (sSeq _ _ [some (.sc ns), some (.d (.int (k : Int))), some (.d (.int (n : Int))), none, none, none]).fin = _
  generalize ws.map PyData.int = WW at *
  generalize nd.map natI = ND at *
  generalize (List.range n).map natI = RN at *
  simp only [e_nil, e_seq, e_fz, e_bk, e_ct, e_ret, e_retN, e_drop, e_set, e_if, e_for, e_cC, e_c2, e_c1, e_cA, e_aN, e_aC, e_cB, e_asB, e_bNot, e_bAnd, e_bOr, e_vAnd, e_vOr, e_vNot, e_vIf, e_bYes, e_iL, e_iT, e_iLb, e_iR, e_gL1, e_gL2, e_gL3, e_gT, e_gLb1, e_gLb2, e_gLb3, e_gLb4, e_nb1, e_nb2, e_bor1, e_bor2, e_bor3, e_bor4, e_arg1, e_arg2, e_arg3, e_arg4, e_putd, e_puto, e_toD1, e_toD2, e_allD0, e_allD1, e_allD2, e_gTupl, e_gList, e_tgnm, e_tgtp, e_tg0, e_tg1, e_sq1, e_sq2, e_sq3, e_sq4, e_sq5, e_qv2, e_qv3, e_qv4, e_qv5, e_data1, e_data2, e_data3, e_okI, e_okB, e_i2, e_sub, e_mul, e_mod, e_div, e_pow, e_lt, e_le, e_gt, e_ge, e_neg, e_addI, e_addS, e_addT, e_addL1, e_addL2, e_addL3, e_addL4, e_addL5, e_addL6, e_addL7, e_addL8, e_addL9, e_eq, e_ne, e_in, e_notIn, e_inT, e_inT2, e_inL1, e_inL2, e_inL3, e_is, e_isNot, e_isN1, e_isN2, e_isN3, e_isN4, e_isN5, e_isN6, e_isN7, e_ixT, e_ixL, e_ixO, e_ixB, e_ixSc, e_lenT, e_lenL, e_lenO, e_lenB, e_lenSc, e_lenS, e_tupT, e_tupL, e_tupO, e_tupB, e_lisT, e_lisL, e_lisO, e_lisB, e_min2, e_max2, e_any, e_all, e_sum, e_sorted, e_rev, e_sl, e_oN, e_isi, e_lc, e_wipe0, e_wipe1, e_iA, e_iAb, e_gAq1, e_gAq2, e_gAq3, e_gAqb1, e_gAqb2, e_gAqb3, e_gAqb4, e_no, e_cCh, e_cChI, e_aug, e_decT, e_decF, e_cDispS, e_cDT, e_cDK, e_cDisp1, e_storeA, e_stR1, e_stR2, e_stR3, e_sd1, e_keyD1, e_keyD2, e_keyTD, e_intsD, e_intsD0, e_borT, e_borT2, e_borK, e_borK2, e_argT, e_argT2, e_argK, e_argK2, e_nbT, e_nbK, e_putT, e_putK, e_gAt1, e_gAt2, e_gAt3, e_gAt4, e_gGetDK, e_gGetDT, e_gIxD, e_gInD, e_gNotInD, e_cGet1, e_cGet2, e_dk1, e_dk2, e_dk3, e_dk4, e_dt1, e_dt2, e_del, atI_zero, e_at1, e_at2, e_at3, e_at4, e_at5, e_at6, e_at7, e_at8, e_at9, e_atm, e_V, e_retV, e_unp, e_app, e_store, e_fzE, oS, rsO_some, Rs.bind_ok, Rs.bind_no, Rs.out_ok, Out.then_nx, Out.then_rt, Out.then_ct, Out.then_bk, fin_rt, fin_nx, List.getElem?_cons_zero, List.getElem?_cons_succ, List.set_cons_succ, List.set_cons_zero, List.length_cons, List.length_nil, Nat.reduceAdd, Nat.reduceLT, Nat.reduceLeDiff, Nat.reduceEqDiff, if_true, if_false, Bool.false_eq_true, Bool.not_true, Bool.not_false, and_self, true_and, and_true, List.map_cons, List.map_nil, Option.map_some, sh_int, sh_bool, sh_none, sh_tup, sh_lst, eqv_int, reduceIte, Option.bind_some, Option.bind_none, kitB_ll, kitB_lt, kitB_tt, kitB_tl, kitB_ii, tyD_list, tyD_int, Bool.true_and, Bool.false_and, Bool.and_true, Bool.and_false, Bool.or_true, Bool.true_or, Bool.false_or, Bool.or_false, Bool.and_self, Bool.or_self, e_cAK, List.append_nil, List.nil_append, List.cons_append, e_andB, e_orB, e_andR, e_orR, tyD_tuple, eqv_bool, eqv_none, tyD_bool, tyD_str, tyD_none, kitB_bb, kitB_nb, kitB_bi, kitB_ib, kitB_nl, kitB_nt, beq_self_eq_true, hrep, e1, hrn, h1]
/-! price certificates: a bound for each configuration next to a cheap one -/
def minO (price : Option Int) (x : Int) : Int := match price with | none => x | some p => min p x
def lessO (price : Option Int) (x : Int) : Bool := match price with | none => true | some p => decide (x < p)
def priceD : Option Int → PyData
  | none => .none
  | some p => .int p
def addS (S : List (List Int)) (c : List Int) : List (List Int) := if c ∈ S then S else S ++ [c]
def addsS (S : List (List Int)) (es : List (Int × List Int)) : List (List Int) := es.foldl (fun S x => addS S x.2) S
def allS (go : List Int → Bool) (succ : List Int → List (Int × List Int)) (ks : List (List Int)) (S : List (List Int)) : List (List Int) := ks.foldl (fun S c => if go c = true then addsS S (succ c) else S) S
def encB (val : List Int → Int) (S : List (List Int)) : List (List Int × PyData) := S.map fun c => (c, .int (val c))
theorem mem_addS {S : List (List Int)} {c d : List Int} : d ∈ addS S c ↔ d ∈ S ∨ d = c := by
  unfold addS
  split
  · rename_i h
    exact ⟨.inl, fun k => k.elim id fun z => by rw [z]; exact h⟩
  · simp
theorem mem_addsS {es : List (Int × List Int)} : ∀ {S : List (List Int)} {d : List Int}, d ∈ addsS S es ↔ d ∈ S ∨ ∃ m, (m, d) ∈ es := by
  induction es with
  | nil => intro S d; unfold addsS; simp
  | cons x es ih =>
    intro S d
    unfold addsS at ih ⊢
    rw [List.foldl_cons, ih, mem_addS]
    constructor
    · rintro ((h | h) | ⟨m, h⟩)
      · exact .inl h
      · exact .inr ⟨x.1, by rw [h]; exact List.mem_cons_self⟩
      · exact .inr ⟨m, List.mem_cons_of_mem _ h⟩
    · rintro (h | ⟨m, h⟩)
      · exact .inl (.inl h)
      · rcases List.mem_cons.mp h with h | h
        · exact .inl (.inr (by rw [← h]))
        · exact .inr ⟨m, h⟩
theorem mem_allS {go : List Int → Bool} {succ : List Int → List (Int × List Int)} {ks : List (List Int)} : ∀ {S : List (List Int)} {d : List Int}, d ∈ allS go succ ks S ↔ d ∈ S ∨ ∃ c ∈ ks, go c = true ∧ ∃ m, (m, d) ∈ succ c := by
  induction ks with
  | nil => intro S d; unfold allS; simp
  | cons c ks ih =>
    intro S d
    unfold allS at ih ⊢
    rw [List.foldl_cons, ih]
    have : (d ∈ if go c = true then addsS S (succ c) else S) ↔ d ∈ S ∨ (go c = true ∧ ∃ m, (m, d) ∈ succ c) := by
      by_cases h : go c = true
      · rw [if_pos h, mem_addsS]; simp [h]
      · rw [if_neg h]; simp [h]
    rw [this]
    constructor
    · rintro ((h | h) | ⟨c', h1, h2⟩)
      · exact .inl h
      · exact .inr ⟨c, List.mem_cons_self, h⟩
      · exact .inr ⟨c', List.mem_cons_of_mem _ h1, h2⟩
    · rintro (h | ⟨c', h1, h2⟩)
      · exact .inl (.inl h)
      · rcases List.mem_cons.mp h1 with rfl | h1
        · exact .inl (.inr h2)
        · exact .inr ⟨c', h1, h2⟩
/-- configurations apart -/
structure SOk (n : Nat) (S : List (List Int)) : Prop where
  nd : S.Nodup
  cf : ∀ c ∈ S, Cf n c
theorem SOk.add {n : Nat} {S : List (List Int)} (h : SOk n S) {c : List Int} (hc : Cf n c) : SOk n (addS S c) := by
  unfold addS
  split
  · exact h
  · rename_i hn
    refine ⟨List.nodup_append.mpr ⟨h.nd, by simp, fun a ha b hb => ?_⟩, fun d hd => ?_⟩
    · rw [List.mem_singleton] at hb
      rintro rfl
      exact hn (hb ▸ ha)
    · rcases List.mem_append.mp hd with k | k
      · exact h.cf d k
      · rw [List.mem_singleton.mp k]; exact hc
theorem SOk.len {n : Nat} {S : List (List Int)} (h : SOk n S) (hn : n ≤ 8) : S.length ≤ 256 := by
  have := cf_count n S h.nd h.cf
  have h28 : 2 ^ n ≤ 2 ^ 8 := Nat.pow_le_pow_right (by omega) hn
  omega
theorem dGet_B (val : List Int → Int) : ∀ (S : List (List Int)) (c : List Int), dGet (encB val S) c = if c ∈ S then some (.int (val c)) else none
  | [], c => rfl
  | d :: S, c => by
    have ih := dGet_B val S c
    unfold encB at ih ⊢
    rw [List.map_cons, dGet_cons, ih]
    by_cases h : d = c
    · subst h; rw [if_pos rfl, if_pos List.mem_cons_self]
    · have h' : ¬ c = d := fun z => h z.symm
      rw [if_neg h]
      by_cases k : c ∈ S
      · rw [if_pos k, if_pos (List.mem_cons_of_mem _ k)]
      · rw [if_neg k, if_neg (by simp [h', k])]
theorem dPut_B (val : List Int → Int) (S : List (List Int)) (c : List Int) : dPut (encB val S) c (.int (val c)) = encB val (addS S c) := by
  unfold addS
  by_cases h : c ∈ S
  · rw [if_pos h]
    unfold dPut
    rw [dGet_any, dGet_B, if_pos h]
    simp only [Option.isSome_some, if_true]
    unfold encB
    rw [List.map_map]
    apply List.map_congr_left
    intro d _
    show (if d = c then _ else _) = _
    split
    · rename_i z; rw [z]
    · rfl
  · rw [if_neg h, dPut_new _ (by rw [dGet_B, if_neg h])]
    unfold encB
    rw [List.map_append]
    rfl
theorem dPut_put {κ : Type} [DecidableEq κ] (kvs : List (κ × PyData)) (c : κ) (a b : PyData) : dPut (dPut kvs c a) c b = dPut kvs c b := by
  by_cases h : (dGet kvs c).isSome = true
  · have h2 : (kvs.any fun p => decide (p.1 = c)) = true := by rw [dGet_any]; exact h
    have h3 : ((dPut kvs c a).any fun p => decide (p.1 = c)) = true := by rw [dGet_any, dGet_put, if_pos rfl]; rfl
    unfold dPut at h3 ⊢
    rw [if_pos h3, if_pos h2, if_pos h2, List.map_map]
    apply List.map_congr_left
    intro p _
    show (if (if p.1 = c then (p.1, a) else p).1 = c then _ else _) = _
    by_cases z : p.1 = c
    · simp [z]
    · simp [z]
  · have hn : dGet kvs c = none := by simpa using h
    have h3 : ((dPut kvs c a).any fun p => decide (p.1 = c)) = true := by rw [dGet_any, dGet_put, if_pos rfl]; rfl
    rw [dPut_new b hn]
    have h4 : ∀ p ∈ kvs, p.1 ≠ c := fun p hp z => by
      have : (kvs.any fun p => decide (p.1 = c)) = true := List.any_eq_true.mpr ⟨p, hp, decide_eq_true z⟩
      rw [dGet_any] at this
      exact h this
    rw [show dPut (dPut kvs c a) c b = (dPut kvs c a).map (fun p => if p.1 = c then (p.1, b) else p) from if_pos h3, dPut_new a hn, List.map_append]
    congr 1
    · exact (List.map_congr_left (g := fun p => p) fun p hp => if_neg (h4 p hp)).trans (List.map_id' kvs)
    · show [if c = c then (c, b) else (c, a)] = _
      rw [if_pos rfl]
theorem len_B (val : List Int → Int) (S : List (List Int)) : (encB val S).length = S.length := List.length_map ..
theorem keys_B (val : List Int → Int) (S : List (List Int)) : (encB val S).map (·.1) = S := by
  unfold encB
  rw [List.map_map]
  exact List.map_id _
/-- the certificate -/
def certD (r : Nat) (price : Option Int) (val : List Int → Int) (S : List (List Int)) : PyData := .tuple [.int (r : Int), priceD price, .tuple ((isortT S).map fun c => .tuple [tupD c, .int (val c)])]
theorem cert_same {r : Nat} {price : Option Int} {val : List Int → Int} {S S' : List (List Int)} (h : S.Nodup) (h' : S'.Nodup) (e : ∀ c, c ∈ S ↔ c ∈ S') : certD r price val S = certD r price val S' := by
  unfold certD
  rw [sortedT_uniq (((isortT_perm S).trans ((List.perm_ext_iff_of_nodup h h').mpr e)).trans (isortT_perm S').symm) (isortT_sorted _) (isortT_sorted _)]
theorem nice_tupD (k : Nat) (c : List Int) : Nice (k + 1) (tupD c) := Nice.tup fun d hd => by
  obtain ⟨x, _, rfl⟩ := List.mem_map.mp hd
  exact Nice.int _ _
theorem nice_cert (r : Nat) (price : Option Int) (val : List Int → Int) (S : List (List Int)) : Nice 4 (certD r price val S) := Nice.tup fun d hd => by
  simp only [List.mem_cons, List.not_mem_nil, or_false] at hd
  rcases hd with rfl | rfl | rfl
  · exact Nice.int _ _
  · cases price
    · exact Nice.none _
    · exact Nice.int _ _
  · refine Nice.tup fun d hd => ?_
    obtain ⟨c, _, rfl⟩ := List.mem_map.mp hd
    refine Nice.tup fun d hd => ?_
    simp only [List.mem_cons, List.not_mem_nil, or_false] at hd
    rcases hd with rfl | rfl
    · exact nice_tupD 0 c
    · exact Nice.int _ _
def leastM (ws : List Int) (T : List (List Int × List Int)) (c : List Int) : Int := match tget T c with | some p => costM ws p | none => 0
def valM (ws : List Int) (T : List (List Int × List Int)) (price : Option Int) (c : List Int) : Int := minO price (leastM ws T c)
theorem min_if (p x : Int) : (if x < p then x else p) = min p x := by
  split <;> omega
theorem cert_in {us : List (List Int)} {ws : List Int} (T : List (List Int × List Int)) (price : Option Int) (a0 a1 a2 a6 e9 : Option RV) (hu : us.length ≤ 8) : ∀ (es : List (Int × List Int)) (S : List (List Int)) (e7 e8 : Option RV), plnO e7 = true → plnO e8 = true → SOk us.length S → (∀ x ∈ es, Cf us.length x.2 ∧ (tget T x.2).isSome = true) →
    ∃ e7' e8', plnO e7' = true ∧ plnO e8' = true ∧ loopF (.tp [7, 8]) L0_price_certificate (encM es) [a0, a1, a2, some (.bt (encW ws T)), some (.d (priceD price)), some (.ot (encB (valM ws T price) S)), a6, e7, e8, e9]
      = .nx [a0, a1, a2, some (.bt (encW ws T)), some (.d (priceD price)), some (.ot (encB (valM ws T price) (addsS S es))), a6, e7', e8', e9] ∧ SOk us.length (addsS S es)
  | [], S, e7, e8, q7, q8, hS, _ => ⟨e7, e8, q7, q8, rfl, hS⟩
  | (m, q) :: es, S, e7, e8, q7, q8, hS, hm => by
    obtain ⟨cq, tq⟩ := hm (m, q) List.mem_cons_self
    have hS2 := hS.add cq
    obtain ⟨e7', e8', j7, j8, ih, hS3⟩ := cert_in (ws := ws) T price a0 a1 a2 a6 e9 hu es (addS S q) (some (.d (.int m))) (some (.d (tupD q))) rfl rfl hS2 fun x hx => hm x (List.mem_cons_of_mem _ hx)
    refine ⟨e7', e8', j7, j8, ?_, hS3⟩
    have htg : tgE (.tp [7, 8]) (.tuple [.int m, tupD q]) [a0, a1, a2, some (.bt (encW ws T)), some (.d (priceD price)), some (.ot (encB (valM ws T price) S)), a6, e7, e8, e9] = some [a0, a1, a2, some (.bt (encW ws T)), some (.d (priceD price)), some (.ot (encB (valM ws T price) S)), a6, some (.d (.int m)), some (.d (tupD q)), e9] := rfl
    have hcons : encM ((m, q) :: es) = .tuple [.int m, tupD q] :: encM es := rfl
    rw [hcons, loopF_cons, htg]
    obtain ⟨p, hp⟩ := Option.isSome_iff_exists.mp tq
    simp only at hp
    have g1 : dGet (encW ws T) q = some (.tuple [.int (costM ws p), tupD p]) := by rw [dGet_W, hp]; rfl
    have hk : keyTD (tupD q) = some q := intsD_map q
    have hv : valM ws T price q = minO price (costM ws p) := by unfold valM leastM; rw [hp]
    have hl : (encB (valM ws T price) S).length ≤ 1000000 := by rw [len_B]; have := hS.len hu; omega
    have hput := dPut_B (valM ws T price) S q
    rw [hv] at hput
    have hl2 : (dPut (encB (valM ws T price) S) q (.int (costM ws p))).length ≤ 1000000 := by
      by_cases h : (dGet (encB (valM ws T price) S) q).isSome = true
      · have := congrArg List.length (dPut_keys_old (.int (costM ws p)) h)
        rw [List.length_map, List.length_map] at this
        rw [this]; exact hl
      · rw [dPut_new _ (by simpa using h), List.length_append, List.length_singleton, len_B]
        have := hS.len hu
        omega
    have hb : L0_price_certificate [a0, a1, a2, some (.bt (encW ws T)), some (.d (priceD price)), some (.ot (encB (valM ws T price) S)), a6, some (.d (.int m)), some (.d (tupD q)), e9] = .nx [a0, a1, a2, some (.bt (encW ws T)), some (.d (priceD price)), some (.ot (encB (valM ws T price) (addS S q))), a6, some (.d (.int m)), some (.d (tupD q)), e9] := by
      unfold L0_price_certificate
      generalize encW ws T = EW at *
      cases price with
      | none =>
        have hput : dPut (encB (valM ws T none) S) q (.int (costM ws p)) = _ := hput
        generalize tupD q = TQ at *
        generalize tupD p = TP at *
        simp only [e_nil, e_seq, e_fz, e_bk, e_ct, e_ret, e_retN, e_drop, e_set, e_if, e_for, e_cC, e_c2, e_c1, e_cA, e_aN, e_aC, e_cB, e_asB, e_bNot, e_bAnd, e_bOr, e_vAnd, e_vOr, e_vNot, e_vIf, e_bYes, e_iL, e_iT, e_iLb, e_iR, e_gL1, e_gL2, e_gL3, e_gT, e_gLb1, e_gLb2, e_gLb3, e_gLb4, e_nb1, e_nb2, e_bor1, e_bor2, e_bor3, e_bor4, e_arg1, e_arg2, e_arg3, e_arg4, e_putd, e_puto, e_toD1, e_toD2, e_allD0, e_allD1, e_allD2, e_gTupl, e_gList, e_tgnm, e_tgtp, e_tg0, e_tg1, e_sq1, e_sq2, e_sq3, e_sq4, e_sq5, e_qv2, e_qv3, e_qv4, e_qv5, e_data1, e_data2, e_data3, e_okI, e_okB, e_i2, e_sub, e_mul, e_mod, e_div, e_pow, e_lt, e_le, e_gt, e_ge, e_neg, e_addI, e_addS, e_addT, e_addL1, e_addL2, e_addL3, e_addL4, e_addL5, e_addL6, e_addL7, e_addL8, e_addL9, e_eq, e_ne, e_in, e_notIn, e_inT, e_inT2, e_inL1, e_inL2, e_inL3, e_is, e_isNot, e_isN1, e_isN2, e_isN3, e_isN4, e_isN5, e_isN6, e_isN7, e_ixT, e_ixL, e_ixO, e_ixB, e_ixSc, e_lenT, e_lenL, e_lenO, e_lenB, e_lenSc, e_lenS, e_tupT, e_tupL, e_tupO, e_tupB, e_lisT, e_lisL, e_lisO, e_lisB, e_min2, e_max2, e_any, e_all, e_sum, e_sorted, e_rev, e_sl, e_oN, e_isi, e_lc, e_wipe0, e_wipe1, e_iA, e_iAb, e_gAq1, e_gAq2, e_gAq3, e_gAqb1, e_gAqb2, e_gAqb3, e_gAqb4, e_no, e_cCh, e_cChI, e_aug, e_decT, e_decF, e_cDispS, e_cDT, e_cDK, e_cDisp1, e_storeA, e_stR1, e_stR2, e_stR3, e_sd1, e_keyD1, e_keyD2, e_keyTD, e_intsD, e_intsD0, e_borT, e_borT2, e_borK, e_borK2, e_argT, e_argT2, e_argK, e_argK2, e_nbT, e_nbK, e_putT, e_putK, e_gAt1, e_gAt2, e_gAt3, e_gAt4, e_gGetDK, e_gGetDT, e_gIxD, e_gInD, e_gNotInD, e_cGet1, e_cGet2, e_dk1, e_dk2, e_dk3, e_dk4, e_dt1, e_dt2, e_del, atI_zero, e_at1, e_at2, e_at3, e_at4, e_at5, e_at6, e_at7, e_at8, e_at9, e_atm, e_V, e_retV, e_unp, e_app, e_store, e_fzE, oS, rsO_some, Rs.bind_ok, Rs.bind_no, Rs.out_ok, Out.then_nx, Out.then_rt, Out.then_ct, Out.then_bk, fin_rt, fin_nx, List.getElem?_cons_zero, List.getElem?_cons_succ, List.set_cons_succ, List.set_cons_zero, List.length_cons, List.length_nil, Nat.reduceAdd, Nat.reduceLT, Nat.reduceLeDiff, Nat.reduceEqDiff, if_true, if_false, Bool.false_eq_true, Bool.not_true, Bool.not_false, and_self, true_and, and_true, List.map_cons, List.map_nil, Option.map_some, sh_int, sh_bool, sh_none, sh_tup, sh_lst, eqv_int, reduceIte, Option.bind_some, Option.bind_none, kitB_ll, kitB_lt, kitB_tt, kitB_tl, kitB_ii, tyD_list, tyD_int, Bool.true_and, Bool.false_and, Bool.and_true, Bool.and_false, Bool.or_true, Bool.true_or, Bool.false_or, Bool.or_false, Bool.and_self, Bool.or_self, e_cAK, List.append_nil, List.nil_append, List.cons_append, e_andB, e_orB, e_andR, e_orR, tyD_tuple, eqv_bool, eqv_none, tyD_bool, tyD_str, tyD_none, kitB_bb, kitB_nb, kitB_bi, kitB_ib, kitB_nl, kitB_nt, beq_self_eq_true, priceD, isNone, hk, g1, if_pos hl, hput]
      | some x =>
        have hput : dPut (encB (valM ws T (some x)) S) q (.int (min x (costM ws p))) = _ := hput
        rw [← dPut_put _ q (.int (costM ws p))] at hput
        generalize encB (valM ws T (some x)) S = EB at *
        generalize encB (valM ws T (some x)) (addS S q) = EB2 at *
        generalize tupD q = TQ at *
        generalize tupD p = TP at *
        simp only [e_nil, e_seq, e_fz, e_bk, e_ct, e_ret, e_retN, e_drop, e_set, e_if, e_for, e_cC, e_c2, e_c1, e_cA, e_aN, e_aC, e_cB, e_asB, e_bNot, e_bAnd, e_bOr, e_vAnd, e_vOr, e_vNot, e_vIf, e_bYes, e_iL, e_iT, e_iLb, e_iR, e_gL1, e_gL2, e_gL3, e_gT, e_gLb1, e_gLb2, e_gLb3, e_gLb4, e_nb1, e_nb2, e_bor1, e_bor2, e_bor3, e_bor4, e_arg1, e_arg2, e_arg3, e_arg4, e_putd, e_puto, e_toD1, e_toD2, e_allD0, e_allD1, e_allD2, e_gTupl, e_gList, e_tgnm, e_tgtp, e_tg0, e_tg1, e_sq1, e_sq2, e_sq3, e_sq4, e_sq5, e_qv2, e_qv3, e_qv4, e_qv5, e_data1, e_data2, e_data3, e_okI, e_okB, e_i2, e_sub, e_mul, e_mod, e_div, e_pow, e_lt, e_le, e_gt, e_ge, e_neg, e_addI, e_addS, e_addT, e_addL1, e_addL2, e_addL3, e_addL4, e_addL5, e_addL6, e_addL7, e_addL8, e_addL9, e_eq, e_ne, e_in, e_notIn, e_inT, e_inT2, e_inL1, e_inL2, e_inL3, e_is, e_isNot, e_isN1, e_isN2, e_isN3, e_isN4, e_isN5, e_isN6, e_isN7, e_ixT, e_ixL, e_ixO, e_ixB, e_ixSc, e_lenT, e_lenL, e_lenO, e_lenB, e_lenSc, e_lenS, e_tupT, e_tupL, e_tupO, e_tupB, e_lisT, e_lisL, e_lisO, e_lisB, e_min2, e_max2, e_any, e_all, e_sum, e_sorted, e_rev, e_sl, e_oN, e_isi, e_lc, e_wipe0, e_wipe1, e_iA, e_iAb, e_gAq1, e_gAq2, e_gAq3, e_gAqb1, e_gAqb2, e_gAqb3, e_gAqb4, e_no, e_cCh, e_cChI, e_aug, e_decT, e_decF, e_cDispS, e_cDT, e_cDK, e_cDisp1, e_storeA, e_stR1, e_stR2, e_stR3, e_sd1, e_keyD1, e_keyD2, e_keyTD, e_intsD, e_intsD0, e_borT, e_borT2, e_borK, e_borK2, e_argT, e_argT2, e_argK, e_argK2, e_nbT, e_nbK, e_putT, e_putK, e_gAt1, e_gAt2, e_gAt3, e_gAt4, e_gGetDK, e_gGetDT, e_gIxD, e_gInD, e_gNotInD, e_cGet1, e_cGet2, e_dk1, e_dk2, e_dk3, e_dk4, e_dt1, e_dt2, e_del, atI_zero, e_at1, e_at2, e_at3, e_at4, e_at5, e_at6, e_at7, e_at8, e_at9, e_atm, e_V, e_retV, e_unp, e_app, e_store, e_fzE, oS, rsO_some, Rs.bind_ok, Rs.bind_no, Rs.out_ok, Out.then_nx, Out.then_rt, Out.then_ct, Out.then_bk, fin_rt, fin_nx, List.getElem?_cons_zero, List.getElem?_cons_succ, List.set_cons_succ, List.set_cons_zero, List.length_cons, List.length_nil, Nat.reduceAdd, Nat.reduceLT, Nat.reduceLeDiff, Nat.reduceEqDiff, if_true, if_false, Bool.false_eq_true, Bool.not_true, Bool.not_false, and_self, true_and, and_true, List.map_cons, List.map_nil, Option.map_some, sh_int, sh_bool, sh_none, sh_tup, sh_lst, eqv_int, reduceIte, Option.bind_some, Option.bind_none, kitB_ll, kitB_lt, kitB_tt, kitB_tl, kitB_ii, tyD_list, tyD_int, Bool.true_and, Bool.false_and, Bool.and_true, Bool.and_false, Bool.or_true, Bool.true_or, Bool.false_or, Bool.or_false, Bool.and_self, Bool.or_self, e_cAK, List.append_nil, List.nil_append, List.cons_append, e_andB, e_orB, e_andR, e_orR, tyD_tuple, eqv_bool, eqv_none, tyD_bool, tyD_str, tyD_none, kitB_bb, kitB_nb, kitB_bi, kitB_ib, kitB_nl, kitB_nt, beq_self_eq_true, priceD, isNone, hk, g1, if_pos hl, if_pos hl2, min_if, hput]
    simp only [hb, lp_nx]
    exact ih
/-- the whole dict of ways walked -/
theorem cert_out {us : List (List Int)} {ws : List Int} (ts : List Int) (r : Nat) (T : List (List Int × List Int)) (price : Option Int) (e9 : Option RV) (hu : us.length ≤ 8) (hr8 : r ≤ 800)
    (next : ∀ c, (tget T c).isSome = true → Cf us.length c ∧ c.length ≤ 800 ∧ ∀ x ∈ succM us r c, Cf us.length x.2 ∧ (tget T x.2).isSome = true) : ∀ (ks : List (List Int)) (S : List (List Int)) (e6 e7 e8 : Option RV), plnO e6 = true → plnO e7 = true → plnO e8 = true → SOk us.length S → (∀ c ∈ ks, (tget T c).isSome = true) →
    ∃ e6' e7' e8', plnO e6' = true ∧ plnO e7' = true ∧ plnO e8' = true ∧ loopF (.nm 6) L1_price_certificate (ks.map tupD) [some (.d (encT us ts)), some (.d (.int (r : Int))), some (.d (.list (ws.map .int))), some (.bt (encW ws T)), some (.d (priceD price)), some (.ot (encB (valM ws T price) S)), e6, e7, e8, e9]
      = .nx [some (.d (encT us ts)), some (.d (.int (r : Int))), some (.d (.list (ws.map .int))), some (.bt (encW ws T)), some (.d (priceD price)), some (.ot (encB (valM ws T price) (allS (fun c => lessO price (leastM ws T c)) (succM us r) ks S))), e6', e7', e8', e9] ∧ SOk us.length (allS (fun c => lessO price (leastM ws T c)) (succM us r) ks S)
  | [], S, e6, e7, e8, q6, q7, q8, hS, _ => ⟨e6, e7, e8, q6, q7, q8, rfl, hS⟩
  | c :: ks, S, e6, e7, e8, q6, q7, q8, hS, hk => by
    have hc := hk c List.mem_cons_self
    obtain ⟨cf, cl, nx⟩ := next c hc
    obtain ⟨p, hp⟩ := Option.isSome_iff_exists.mp hc
    have g1 : dGet (encW ws T) c = some (.tuple [.int (costM ws p), tupD p]) := by rw [dGet_W, hp]; rfl
    have hkt : keyTD (tupD c) = some c := intsD_map c
    have hv : leastM ws T c = costM ws p := by unfold leastM; rw [hp]
    have htr := trans_ok us ts c r (by omega) (by omega)
    rw [List.map_cons, loopF_cons]
    have htg : tgE (.nm 6) (tupD c) [some (.d (encT us ts)), some (.d (.int (r : Int))), some (.d (.list (ws.map .int))), some (.bt (encW ws T)), some (.d (priceD price)), some (.ot (encB (valM ws T price) S)), e6, e7, e8, e9] = some [some (.d (encT us ts)), some (.d (.int (r : Int))), some (.d (.list (ws.map .int))), some (.bt (encW ws T)), some (.d (priceD price)), some (.ot (encB (valM ws T price) S)), some (.d (tupD c)), e7, e8, e9] := rfl
    rw [htg]
    by_cases hgo : lessO price (leastM ws T c) = true
    · obtain ⟨f7, f8, q7, q8, hin, hS2⟩ := cert_in (ws := ws) T price (some (.d (encT us ts))) (some (.d (.int (r : Int)))) (some (.d (.list (ws.map .int)))) (some (.d (tupD c))) e9 hu (succM us r c) S e7 e8 q7 q8 hS nx
      obtain ⟨e6', e7', e8', j6, j7, j8, ih, hS3⟩ := cert_out (ws := ws) ts r T price e9 hu hr8 next ks (addsS S (succM us r c)) (some (.d (tupD c))) f7 f8 rfl q7 q8 hS2 fun x hx => hk x (List.mem_cons_of_mem _ hx)
      have hst : allS (fun c => lessO price (leastM ws T c)) (succM us r) (c :: ks) S = allS (fun c => lessO price (leastM ws T c)) (succM us r) ks (addsS S (succM us r c)) := by
        show List.foldl _ _ _ = _
        rw [List.foldl_cons, if_pos hgo]
        rfl
      rw [hst]
      refine ⟨e6', e7', e8', j6, j7, j8, ?_, hS3⟩
      have hb : L1_price_certificate [some (.d (encT us ts)), some (.d (.int (r : Int))), some (.d (.list (ws.map .int))), some (.bt (encW ws T)), some (.d (priceD price)), some (.ot (encB (valM ws T price) S)), some (.d (tupD c)), e7, e8, e9] = .nx [some (.d (encT us ts)), some (.d (.int (r : Int))), some (.d (.list (ws.map .int))), some (.bt (encW ws T)), some (.d (priceD price)), some (.ot (encB (valM ws T price) (addsS S (succM us r c)))), some (.d (tupD c)), f7, f8, e9] := by
        unfold L1_price_certificate
        rw [hv] at hgo
        generalize encW ws T = EW at *
        generalize tupD c = TC at *
        generalize encM (succM us r c) = EM at *
        generalize encT us ts = ET at *
        generalize ws.map PyData.int = WS at *
        generalize encB (valM ws T price) S = EB at *
        generalize encB (valM ws T price) (addsS S (succM us r c)) = EB2 at *
        generalize tupD p = TP at *
        cases price with
        | none =>
          have hin : loopF (.tp [7, 8]) L0_price_certificate EM [some (.d ET), some (.d (.int (r : Int))), some (.d (.list WS)), some (.bt EW), some (.d .none), _, _, _, _, _] = _ := hin
          simp only [e_nil, e_seq, e_fz, e_bk, e_ct, e_ret, e_retN, e_drop, e_set, e_if, e_for, e_cC, e_c2, e_c1, e_cA, e_aN, e_aC, e_cB, e_asB, e_bNot, e_bAnd, e_bOr, e_vAnd, e_vOr, e_vNot, e_vIf, e_bYes, e_iL, e_iT, e_iLb, e_iR, e_gL1, e_gL2, e_gL3, e_gT, e_gLb1, e_gLb2, e_gLb3, e_gLb4, e_nb1, e_nb2, e_bor1, e_bor2, e_bor3, e_bor4, e_arg1, e_arg2, e_arg3, e_arg4, e_putd, e_puto, e_toD1, e_toD2, e_allD0, e_allD1, e_allD2, e_gTupl, e_gList, e_tgnm, e_tgtp, e_tg0, e_tg1, e_sq1, e_sq2, e_sq3, e_sq4, e_sq5, e_qv2, e_qv3, e_qv4, e_qv5, e_data1, e_data2, e_data3, e_okI, e_okB, e_i2, e_sub, e_mul, e_mod, e_div, e_pow, e_lt, e_le, e_gt, e_ge, e_neg, e_addI, e_addS, e_addT, e_addL1, e_addL2, e_addL3, e_addL4, e_addL5, e_addL6, e_addL7, e_addL8, e_addL9, e_eq, e_ne, e_in, e_notIn, e_inT, e_inT2, e_inL1, e_inL2, e_inL3, e_is, e_isNot, e_isN1, e_isN2, e_isN3, e_isN4, e_isN5, e_isN6, e_isN7, e_ixT, e_ixL, e_ixO, e_ixB, e_ixSc, e_lenT, e_lenL, e_lenO, e_lenB, e_lenSc, e_lenS, e_tupT, e_tupL, e_tupO, e_tupB, e_lisT, e_lisL, e_lisO, e_lisB, e_min2, e_max2, e_any, e_all, e_sum, e_sorted, e_rev, e_sl, e_oN, e_isi, e_lc, e_wipe0, e_wipe1, e_iA, e_iAb, e_gAq1, e_gAq2, e_gAq3, e_gAqb1, e_gAqb2, e_gAqb3, e_gAqb4, e_no, e_cCh, e_cChI, e_aug, e_decT, e_decF, e_cDispS, e_cDT, e_cDK, e_cDisp1, e_storeA, e_stR1, e_stR2, e_stR3, e_sd1, e_keyD1, e_keyD2, e_keyTD, e_intsD, e_intsD0, e_borT, e_borT2, e_borK, e_borK2, e_argT, e_argT2, e_argK, e_argK2, e_nbT, e_nbK, e_putT, e_putK, e_gAt1, e_gAt2, e_gAt3, e_gAt4, e_gGetDK, e_gGetDT, e_gIxD, e_gInD, e_gNotInD, e_cGet1, e_cGet2, e_dk1, e_dk2, e_dk3, e_dk4, e_dt1, e_dt2, e_del, atI_zero, e_at1, e_at2, e_at3, e_at4, e_at5, e_at6, e_at7, e_at8, e_at9, e_atm, e_V, e_retV, e_unp, e_app, e_store, e_fzE, oS, rsO_some, Rs.bind_ok, Rs.bind_no, Rs.out_ok, Out.then_nx, Out.then_rt, Out.then_ct, Out.then_bk, fin_rt, fin_nx, List.getElem?_cons_zero, List.getElem?_cons_succ, List.set_cons_succ, List.set_cons_zero, List.length_cons, List.length_nil, Nat.reduceAdd, Nat.reduceLT, Nat.reduceLeDiff, Nat.reduceEqDiff, if_true, if_false, Bool.false_eq_true, Bool.not_true, Bool.not_false, and_self, true_and, and_true, List.map_cons, List.map_nil, Option.map_some, sh_int, sh_bool, sh_none, sh_tup, sh_lst, eqv_int, reduceIte, Option.bind_some, Option.bind_none, kitB_ll, kitB_lt, kitB_tt, kitB_tl, kitB_ii, tyD_list, tyD_int, Bool.true_and, Bool.false_and, Bool.and_true, Bool.and_false, Bool.or_true, Bool.true_or, Bool.false_or, Bool.or_false, Bool.and_self, Bool.or_self, e_cAK, List.append_nil, List.nil_append, List.cons_append, e_andB, e_orB, e_andR, e_orR, tyD_tuple, eqv_bool, eqv_none, tyD_bool, tyD_str, tyD_none, kitB_bb, kitB_nb, kitB_bi, kitB_ib, kitB_nl, kitB_nt, beq_self_eq_true, priceD, isNone, hkt, g1, htr, e_iA, hin]
        | some x =>
          have hin : loopF (.tp [7, 8]) L0_price_certificate EM [some (.d ET), some (.d (.int (r : Int))), some (.d (.list WS)), some (.bt EW), some (.d (.int x)), _, _, _, _, _] = _ := hin
          have hgo : decide (costM ws p < x) = true := hgo
          simp only [e_nil, e_seq, e_fz, e_bk, e_ct, e_ret, e_retN, e_drop, e_set, e_if, e_for, e_cC, e_c2, e_c1, e_cA, e_aN, e_aC, e_cB, e_asB, e_bNot, e_bAnd, e_bOr, e_vAnd, e_vOr, e_vNot, e_vIf, e_bYes, e_iL, e_iT, e_iLb, e_iR, e_gL1, e_gL2, e_gL3, e_gT, e_gLb1, e_gLb2, e_gLb3, e_gLb4, e_nb1, e_nb2, e_bor1, e_bor2, e_bor3, e_bor4, e_arg1, e_arg2, e_arg3, e_arg4, e_putd, e_puto, e_toD1, e_toD2, e_allD0, e_allD1, e_allD2, e_gTupl, e_gList, e_tgnm, e_tgtp, e_tg0, e_tg1, e_sq1, e_sq2, e_sq3, e_sq4, e_sq5, e_qv2, e_qv3, e_qv4, e_qv5, e_data1, e_data2, e_data3, e_okI, e_okB, e_i2, e_sub, e_mul, e_mod, e_div, e_pow, e_lt, e_le, e_gt, e_ge, e_neg, e_addI, e_addS, e_addT, e_addL1, e_addL2, e_addL3, e_addL4, e_addL5, e_addL6, e_addL7, e_addL8, e_addL9, e_eq, e_ne, e_in, e_notIn, e_inT, e_inT2, e_inL1, e_inL2, e_inL3, e_is, e_isNot, e_isN1, e_isN2, e_isN3, e_isN4, e_isN5, e_isN6, e_isN7, e_ixT, e_ixL, e_ixO, e_ixB, e_ixSc, e_lenT, e_lenL, e_lenO, e_lenB, e_lenSc, e_lenS, e_tupT, e_tupL, e_tupO, e_tupB, e_lisT, e_lisL, e_lisO, e_lisB, e_min2, e_max2, e_any, e_all, e_sum, e_sorted, e_rev, e_sl, e_oN, e_isi, e_lc, e_wipe0, e_wipe1, e_iA, e_iAb, e_gAq1, e_gAq2, e_gAq3, e_gAqb1, e_gAqb2, e_gAqb3, e_gAqb4, e_no, e_cCh, e_cChI, e_aug, e_decT, e_decF, e_cDispS, e_cDT, e_cDK, e_cDisp1, e_storeA, e_stR1, e_stR2, e_stR3, e_sd1, e_keyD1, e_keyD2, e_keyTD, e_intsD, e_intsD0, e_borT, e_borT2, e_borK, e_borK2, e_argT, e_argT2, e_argK, e_argK2, e_nbT, e_nbK, e_putT, e_putK, e_gAt1, e_gAt2, e_gAt3, e_gAt4, e_gGetDK, e_gGetDT, e_gIxD, e_gInD, e_gNotInD, e_cGet1, e_cGet2, e_dk1, e_dk2, e_dk3, e_dk4, e_dt1, e_dt2, e_del, atI_zero, e_at1, e_at2, e_at3, e_at4, e_at5, e_at6, e_at7, e_at8, e_at9, e_atm, e_V, e_retV, e_unp, e_app, e_store, e_fzE, oS, rsO_some, Rs.bind_ok, Rs.bind_no, Rs.out_ok, Out.then_nx, Out.then_rt, Out.then_ct, Out.then_bk, fin_rt, fin_nx, List.getElem?_cons_zero, List.getElem?_cons_succ, List.set_cons_succ, List.set_cons_zero, List.length_cons, List.length_nil, Nat.reduceAdd, Nat.reduceLT, Nat.reduceLeDiff, Nat.reduceEqDiff, if_true, if_false, Bool.false_eq_true, Bool.not_true, Bool.not_false, and_self, true_and, and_true, List.map_cons, List.map_nil, Option.map_some, sh_int, sh_bool, sh_none, sh_tup, sh_lst, eqv_int, reduceIte, Option.bind_some, Option.bind_none, kitB_ll, kitB_lt, kitB_tt, kitB_tl, kitB_ii, tyD_list, tyD_int, Bool.true_and, Bool.false_and, Bool.and_true, Bool.and_false, Bool.or_true, Bool.true_or, Bool.false_or, Bool.or_false, Bool.and_self, Bool.or_self, e_cAK, List.append_nil, List.nil_append, List.cons_append, e_andB, e_orB, e_andR, e_orR, tyD_tuple, eqv_bool, eqv_none, tyD_bool, tyD_str, tyD_none, kitB_bb, kitB_nb, kitB_bi, kitB_ib, kitB_nl, kitB_nt, beq_self_eq_true, priceD, isNone, hkt, g1, hgo, htr, e_iA, hin]
      simp only [hb, lp_nx]
      exact ih
    · obtain ⟨e6', e7', e8', j6, j7, j8, ih, hS3⟩ := cert_out (ws := ws) ts r T price e9 hu hr8 next ks S (some (.d (tupD c))) e7 e8 rfl q7 q8 hS fun x hx => hk x (List.mem_cons_of_mem _ hx)
      have hst : allS (fun c => lessO price (leastM ws T c)) (succM us r) (c :: ks) S = allS (fun c => lessO price (leastM ws T c)) (succM us r) ks S := by
        show List.foldl _ _ _ = _
        rw [List.foldl_cons, if_neg hgo]
        rfl
      rw [hst]
      refine ⟨e6', e7', e8', j6, j7, j8, ?_, hS3⟩
      have hb : L1_price_certificate [some (.d (encT us ts)), some (.d (.int (r : Int))), some (.d (.list (ws.map .int))), some (.bt (encW ws T)), some (.d (priceD price)), some (.ot (encB (valM ws T price) S)), some (.d (tupD c)), e7, e8, e9] = .nx [some (.d (encT us ts)), some (.d (.int (r : Int))), some (.d (.list (ws.map .int))), some (.bt (encW ws T)), some (.d (priceD price)), some (.ot (encB (valM ws T price) S)), some (.d (tupD c)), e7, e8, e9] := by
        unfold L1_price_certificate
        rw [hv] at hgo
        generalize encW ws T = EW at *
        generalize tupD c = TC at *
        generalize encT us ts = ET at *
        generalize ws.map PyData.int = WS at *
        generalize encB (valM ws T price) S = EB at *
        generalize tupD p = TP at *
        cases price with
        | none => exact absurd rfl hgo
        | some x =>
          have hgo : decide (costM ws p < x) = false := by
            have : ¬ decide (costM ws p < x) = true := hgo
            simpa using this
          simp only [e_nil, e_seq, e_fz, e_bk, e_ct, e_ret, e_retN, e_drop, e_set, e_if, e_for, e_cC, e_c2, e_c1, e_cA, e_aN, e_aC, e_cB, e_asB, e_bNot, e_bAnd, e_bOr, e_vAnd, e_vOr, e_vNot, e_vIf, e_bYes, e_iL, e_iT, e_iLb, e_iR, e_gL1, e_gL2, e_gL3, e_gT, e_gLb1, e_gLb2, e_gLb3, e_gLb4, e_nb1, e_nb2, e_bor1, e_bor2, e_bor3, e_bor4, e_arg1, e_arg2, e_arg3, e_arg4, e_putd, e_puto, e_toD1, e_toD2, e_allD0, e_allD1, e_allD2, e_gTupl, e_gList, e_tgnm, e_tgtp, e_tg0, e_tg1, e_sq1, e_sq2, e_sq3, e_sq4, e_sq5, e_qv2, e_qv3, e_qv4, e_qv5, e_data1, e_data2, e_data3, e_okI, e_okB, e_i2, e_sub, e_mul, e_mod, e_div, e_pow, e_lt, e_le, e_gt, e_ge, e_neg, e_addI, e_addS, e_addT, e_addL1, e_addL2, e_addL3, e_addL4, e_addL5, e_addL6, e_addL7, e_addL8, e_addL9, e_eq, e_ne, e_in, e_notIn, e_inT, e_inT2, e_inL1, e_inL2, e_inL3, e_is, e_isNot, e_isN1, e_isN2, e_isN3, e_isN4, e_isN5, e_isN6, e_isN7, e_ixT, e_ixL, e_ixO, e_ixB, e_ixSc, e_lenT, e_lenL, e_lenO, e_lenB, e_lenSc, e_lenS, e_tupT, e_tupL, e_tupO, e_tupB, e_lisT, e_lisL, e_lisO, e_lisB, e_min2, e_max2, e_any, e_all, e_sum, e_sorted, e_rev, e_sl, e_oN, e_isi, e_lc, e_wipe0, e_wipe1, e_iA, e_iAb, e_gAq1, e_gAq2, e_gAq3, e_gAqb1, e_gAqb2, e_gAqb3, e_gAqb4, e_no, e_cCh, e_cChI, e_aug, e_decT, e_decF, e_cDispS, e_cDT, e_cDK, e_cDisp1, e_storeA, e_stR1, e_stR2, e_stR3, e_sd1, e_keyD1, e_keyD2, e_keyTD, e_intsD, e_intsD0, e_borT, e_borT2, e_borK, e_borK2, e_argT, e_argT2, e_argK, e_argK2, e_nbT, e_nbK, e_putT, e_putK, e_gAt1, e_gAt2, e_gAt3, e_gAt4, e_gGetDK, e_gGetDT, e_gIxD, e_gInD, e_gNotInD, e_cGet1, e_cGet2, e_dk1, e_dk2, e_dk3, e_dk4, e_dt1, e_dt2, e_del, atI_zero, e_at1, e_at2, e_at3, e_at4, e_at5, e_at6, e_at7, e_at8, e_at9, e_atm, e_V, e_retV, e_unp, e_app, e_store, e_fzE, oS, rsO_some, Rs.bind_ok, Rs.bind_no, Rs.out_ok, Out.then_nx, Out.then_rt, Out.then_ct, Out.then_bk, fin_rt, fin_nx, List.getElem?_cons_zero, List.getElem?_cons_succ, List.set_cons_succ, List.set_cons_zero, List.length_cons, List.length_nil, Nat.reduceAdd, Nat.reduceLT, Nat.reduceLeDiff, Nat.reduceEqDiff, if_true, if_false, Bool.false_eq_true, Bool.not_true, Bool.not_false, and_self, true_and, and_true, List.map_cons, List.map_nil, Option.map_some, sh_int, sh_bool, sh_none, sh_tup, sh_lst, eqv_int, reduceIte, Option.bind_some, Option.bind_none, kitB_ll, kitB_lt, kitB_tt, kitB_tl, kitB_ii, tyD_list, tyD_int, Bool.true_and, Bool.false_and, Bool.and_true, Bool.and_false, Bool.or_true, Bool.true_or, Bool.false_or, Bool.or_false, Bool.and_self, Bool.or_self, e_cAK, List.append_nil, List.nil_append, List.cons_append, e_andB, e_orB, e_andR, e_orR, tyD_tuple, eqv_bool, eqv_none, tyD_bool, tyD_str, tyD_none, kitB_bb, kitB_nb, kitB_bi, kitB_ib, kitB_nl, kitB_nt, beq_self_eq_true, priceD, isNone, hkt, g1, hgo]
      simp only [hb, lp_nx]
      exact ih

theorem tgl {e : VEnv} (d : PyData) (i : Nat) (h : i < e.length) : tgE (.nm i) d e = some (e.set i (some (.d d))) := by
  show (if i < e.length then _ else _) = _
  rw [if_pos h]
theorem cost_nonneg {us : List (List Int)} {ws : List Int} {r : Nat} {c0 c p : List Int} (pw : PrOk ws us.length) (h : Path (succM us r) c0 p c) : 0 ≤ costM ws p := by
  induction h with
  | nil => exact Int.le_refl _
  | @snoc q c e l hp hs ih =>
    have := pw.succ r _ _ hs
    rw [cost_snoc]
    simp only at this
    omega
/-- price_certificate -/
theorem cert_ok {us : List (List Int)} {ws : List Int} (ts : List Int) (r : Nat) (pw : PrOk ws us.length) (hu : us.length ≤ 8) (hr8 : r ≤ 800) : ∃ T, WTab (succM us r) ws [] T ∧ T.length ≤ 256 ∧
    (∀ c, (tget T c).isSome = true → Cf us.length c ∧ c.length ≤ 800 ∧ ∀ x ∈ succM us r c, Cf us.length x.2 ∧ (tget T x.2).isSome = true) ∧ leastM ws T [] = 0 ∧ (∀ c, 0 ≤ leastM ws T c) ∧
    ∃ S, S = allS (fun c => lessO ((tget T ts).map (costM ws)) (leastM ws T c)) (succM us r) (T.map (·.1)) [[]] ∧ SOk us.length S ∧
    F_price_certificate [.d (encT us ts), .d (.int (r : Int)), .d (.list (ws.map .int))] = .ok (.d (certD r ((tget T ts).map (costM ws)) (valM ws T ((tget T ts).map (costM ws))) S)) := by
  obtain ⟨T, h1, ht, hl⟩ := ways_ok ts r pw hu hr8
  refine ⟨T, ht, hl, ?_⟩
  have cf0 : Cf us.length [] := ⟨List.Pairwise.nil, fun x hx => (by cases hx)⟩
  have next : ∀ c, (tget T c).isSome = true → Cf us.length c ∧ c.length ≤ 800 ∧ ∀ x ∈ succM us r c, Cf us.length x.2 ∧ (tget T x.2).isSome = true := fun c hc => by
    obtain ⟨p, hp⟩ := Option.isSome_iff_exists.mp hc
    have pp := (ht.best c p hp).path
    have := path_len pp
    refine ⟨cf0.path pp, by simp at this; omega, fun x hx => ?_⟩
    have p2 := Path.snoc pp (show (x.1, x.2) ∈ succM us r c from hx)
    exact ⟨cf0.path p2, ht.all _ _ p2⟩
  have hpos : ∀ c, 0 ≤ leastM ws T c := fun c => by
    unfold leastM
    split
    · rename_i p hp
      exact cost_nonneg pw (ht.best c p hp).path
    · exact Int.le_refl _
  have h0 : leastM ws T [] = 0 := by
    have a := hpos []
    unfold leastM at a ⊢
    split at a
    · rename_i p hp
      rcases (ht.best [] p hp).least [] .nil with e | e
      · rw [← e]; rfl
      · show costM ws p = 0
        rcases e with e | ⟨e, _⟩
        · rw [cost_nil] at e; omega
        · exact e
    · rfl
  refine ⟨next, h0, hpos, _, rfl, ?_⟩
  have hS0 : SOk us.length [[]] := ⟨by simp, fun c hc => by rw [List.mem_singleton.mp hc]; exact cf0⟩
  obtain ⟨f6, f7, f8, q6, q7, q8, hw, hS⟩ := cert_out (ws := ws) ts r T ((tget T ts).map (costM ws)) none hu hr8 next (T.map (·.1)) [[]] none none none rfl rfl rfl hS0 fun c hc => by
    obtain ⟨e, he, rfl⟩ := List.mem_map.mp hc
    rw [tget_of ht.nodup (show (e.1, e.2) ∈ T from he)]
    rfl
  refine ⟨hS, ?_⟩
  generalize allS (fun c => lessO ((tget T ts).map (costM ws)) (leastM ws T c)) (succM us r) (T.map (·.1)) [[]] = S at *
  have hv0 : valM ws T ((tget T ts).map (costM ws)) [] = 0 := by
    unfold valM minO
    rw [h0]
    cases e : tget T ts with
    | none => rfl
    | some p =>
      have := cost_nonneg pw (ht.best ts p e).path
      show min (costM ws p) 0 = 0
      omega
  have hb0 : encB (valM ws T ((tget T ts).map (costM ws))) [[]] = [([], .int 0)] := by unfold encB; rw [List.map_cons, hv0]; rfl
  rw [hb0] at hw
  have hmap : (encW ws T).map (fun e => PyData.tuple (e.1.map .int)) = (T.map (·.1)).map tupD := by
    unfold encW
    rw [List.map_map, List.map_map]
    rfl
  have hprice : ∀ x, priceD x = (match x with | none => PyData.none | some p => .int p) := fun x => by cases x <;> rfl
  have hfor : sForD (.nm 6) 3 L1_price_certificate [some (.d (encT us ts)), some (.d (.int (r : Int))), some (.d (.list (ws.map .int))), some (.ot (encW ws T)), some (.d (priceD ((tget T ts).map (costM ws)))), some (.ot [([], .int 0)]), none, none, none, none]
      = .nx [some (.d (encT us ts)), some (.d (.int (r : Int))), some (.d (.list (ws.map .int))), none, some (.d (priceD ((tget T ts).map (costM ws)))), some (.ot (encB (valM ws T ((tget T ts).map (costM ws))) S)), f6, f7, f8, none] := by
    show finD 3 (loopF (.nm 6) L1_price_certificate ((encW ws T).map (fun e => PyData.tuple (e.1.map .int))) [some (.d (encT us ts)), some (.d (.int (r : Int))), some (.d (.list (ws.map .int))), some (.bt (encW ws T)), some (.d (priceD ((tget T ts).map (costM ws)))), some (.ot [([], .int 0)]), none, none, none, none]) = _
    rw [hmap, hw, finD_nx]
    · rfl
    · simp only [List.set_cons_succ, List.set_cons_zero, plnE_cons, plnE_nil, q6, q7, q8]
      rfl
  have hlc : lcF (.nm 6) bYes (cA gTupl (aC (cV 6) (aC (c2 gIxD (cV 5) (cV 6)) aN))) [some (.d (encT us ts)), some (.d (.int (r : Int))), some (.d (.list (ws.map .int))), none, some (.d (priceD ((tget T ts).map (costM ws)))), some (.ot (encB (valM ws T ((tget T ts).map (costM ws))) S)), none, f7, f8, none] ((isortT S).map tupD) = .ok ((isortT S).map fun c => .tuple [tupD c, .int (valM ws T ((tget T ts).map (costM ws)) c)]) := by
    refine (lcF_map tupD (fun _ => true) (fun c => .tuple [tupD c, .int (valM ws T ((tget T ts).map (costM ws)) c)]) (isortT S) fun c hc => ⟨[some (.d (encT us ts)), some (.d (.int (r : Int))), some (.d (.list (ws.map .int))), none, some (.d (priceD ((tget T ts).map (costM ws)))), some (.ot (encB (valM ws T ((tget T ts).map (costM ws))) S)), some (.d (tupD c)), f7, f8, none], rfl, rfl, fun _ => ⟨.d (.tuple [tupD c, .int (valM ws T ((tget T ts).map (costM ws)) c)]), ?_, rfl⟩⟩).trans ?_
    · have hk : keyTD (tupD c) = some c := intsD_map c
      have hg : dGet (encB (valM ws T ((tget T ts).map (costM ws))) S) c = some (.int (valM ws T ((tget T ts).map (costM ws)) c)) := by
        rw [dGet_B, if_pos ((isortT_perm S).mem_iff.mp hc)]
      generalize encB (valM ws T ((tget T ts).map (costM ws))) S = EB at *
      generalize tupD c = TC at *
      simp only [e_nil, e_seq, e_fz, e_bk, e_ct, e_ret, e_retN, e_drop, e_set, e_if, e_for, e_cC, e_c2, e_c1, e_cA, e_aN, e_aC, e_cB, e_asB, e_bNot, e_bAnd, e_bOr, e_vAnd, e_vOr, e_vNot, e_vIf, e_bYes, e_iL, e_iT, e_iLb, e_iR, e_gL1, e_gL2, e_gL3, e_gT, e_gLb1, e_gLb2, e_gLb3, e_gLb4, e_nb1, e_nb2, e_bor1, e_bor2, e_bor3, e_bor4, e_arg1, e_arg2, e_arg3, e_arg4, e_putd, e_puto, e_toD1, e_toD2, e_allD0, e_allD1, e_allD2, e_gTupl, e_gList, e_tgnm, e_tgtp, e_tg0, e_tg1, e_sq1, e_sq2, e_sq3, e_sq4, e_sq5, e_qv2, e_qv3, e_qv4, e_qv5, e_data1, e_data2, e_data3, e_okI, e_okB, e_i2, e_sub, e_mul, e_mod, e_div, e_pow, e_lt, e_le, e_gt, e_ge, e_neg, e_addI, e_addS, e_addT, e_addL1, e_addL2, e_addL3, e_addL4, e_addL5, e_addL6, e_addL7, e_addL8, e_addL9, e_eq, e_ne, e_in, e_notIn, e_inT, e_inT2, e_inL1, e_inL2, e_inL3, e_is, e_isNot, e_isN1, e_isN2, e_isN3, e_isN4, e_isN5, e_isN6, e_isN7, e_ixT, e_ixL, e_ixO, e_ixB, e_ixSc, e_lenT, e_lenL, e_lenO, e_lenB, e_lenSc, e_lenS, e_tupT, e_tupL, e_tupO, e_tupB, e_lisT, e_lisL, e_lisO, e_lisB, e_min2, e_max2, e_any, e_all, e_sum, e_sorted, e_rev, e_sl, e_oN, e_isi, e_lc, e_wipe0, e_wipe1, e_iA, e_iAb, e_gAq1, e_gAq2, e_gAq3, e_gAqb1, e_gAqb2, e_gAqb3, e_gAqb4, e_no, e_cCh, e_cChI, e_aug, e_decT, e_decF, e_cDispS, e_cDT, e_cDK, e_cDisp1, e_storeA, e_stR1, e_stR2, e_stR3, e_sd1, e_keyD1, e_keyD2, e_keyTD, e_intsD, e_intsD0, e_borT, e_borT2, e_borK, e_borK2, e_argT, e_argT2, e_argK, e_argK2, e_nbT, e_nbK, e_putT, e_putK, e_gAt1, e_gAt2, e_gAt3, e_gAt4, e_gGetDK, e_gGetDT, e_gIxD, e_gInD, e_gNotInD, e_cGet1, e_cGet2, e_dk1, e_dk2, e_dk3, e_dk4, e_dt1, e_dt2, e_del, atI_zero, e_at1, e_at2, e_at3, e_at4, e_at5, e_at6, e_at7, e_at8, e_at9, e_atm, e_V, e_retV, e_unp, e_app, e_store, e_fzE, oS, rsO_some, Rs.bind_ok, Rs.bind_no, Rs.out_ok, Out.then_nx, Out.then_rt, Out.then_ct, Out.then_bk, fin_rt, fin_nx, List.getElem?_cons_zero, List.getElem?_cons_succ, List.set_cons_succ, List.set_cons_zero, List.length_cons, List.length_nil, Nat.reduceAdd, Nat.reduceLT, Nat.reduceLeDiff, Nat.reduceEqDiff, if_true, if_false, Bool.false_eq_true, Bool.not_true, Bool.not_false, and_self, true_and, and_true, List.map_cons, List.map_nil, Option.map_some, sh_int, sh_bool, sh_none, sh_tup, sh_lst, eqv_int, reduceIte, Option.bind_some, Option.bind_none, kitB_ll, kitB_lt, kitB_tt, kitB_tl, kitB_ii, tyD_list, tyD_int, Bool.true_and, Bool.false_and, Bool.and_true, Bool.and_false, Bool.or_true, Bool.true_or, Bool.false_or, Bool.or_false, Bool.and_self, Bool.or_self, e_cAK, List.append_nil, List.nil_append, List.cons_append, e_andB, e_orB, e_andR, e_orR, tyD_tuple, eqv_bool, eqv_none, tyD_bool, tyD_str, tyD_none, kitB_bb, kitB_nb, kitB_bi, kitB_ib, kitB_nl, kitB_nt, beq_self_eq_true, hk, hg]
    · rw [List.filter_eq_self.mpr (fun _ _ => rfl)]
  have hk : keyTD (tupD ts) = some ts := intsD_map ts
  have hg := dGet_W ws T ts
  have h2 : gIx (.d (encT us ts)) (.d (.int 1)) = .ok (.d (tupD ts)) := rfl
  have hsk : gSortK [.bt (encB (valM ws T ((tget T ts).map (costM ws))) S)] = .ok (.ol ((isortT S).map tupD)) := by
    have hkb := keys_B (valM ws T ((tget T ts).map (costM ws))) S
    generalize encB (valM ws T ((tget T ts).map (costM ws))) S = EB at *
    rw [e_sortK]
    show Rs.ok (RV.ol ((isortT (EB.map (·.1))).map fun k => .tuple (k.map .int))) = _
    rw [hkb]
    rfl
  show (sSeq _ _ [some (.d (encT us ts)), some (.d (.int (r : Int))), some (.d (.list (ws.map .int))), none, none, none, none, none, none, none]).fin = _
  unfold certD
  have hle : ∀ b : List PyData, (b.map fun x => x) = b := fun b => List.map_id' b
  have hKS : ((isortT S).map tupD).length ≤ 1000000 := by
    have := hS.len hu
    rw [List.length_map, (isortT_perm S).length_eq]
    omega
  generalize (isortT S).map (fun c => PyData.tuple [tupD c, .int (valM ws T ((tget T ts).map (costM ws)) c)]) = OUT at *
  generalize (isortT S).map tupD = KS at *
  generalize valM ws T ((tget T ts).map (costM ws)) = VM at *
  generalize encB VM S = EB at *
  generalize encT us ts = ET at *
  generalize encW ws T = EW at *
  generalize tupD ts = TT at *
  generalize ws.map PyData.int = WS at *
  cases hp : tget T ts with
  | none =>
    rw [hp] at hg hfor hlc
    have hg : dGet EW ts = none := hg
    simp only [Option.map_none, priceD] at hfor hlc ⊢
    simp only [e_nil, e_seq, e_fz, e_bk, e_ct, e_ret, e_retN, e_drop, e_set, e_if, e_for, e_cC, e_c2, e_c1, e_cA, e_aN, e_aC, e_cB, e_asB, e_bNot, e_bAnd, e_bOr, e_vAnd, e_vOr, e_vNot, e_vIf, e_bYes, e_iL, e_iT, e_iLb, e_iR, e_gL1, e_gL2, e_gL3, e_gT, e_gLb1, e_gLb2, e_gLb3, e_gLb4, e_nb1, e_nb2, e_bor1, e_bor2, e_bor3, e_bor4, e_arg1, e_arg2, e_arg3, e_arg4, e_putd, e_puto, e_toD1, e_toD2, e_allD0, e_allD1, e_allD2, e_gTupl, e_gList, e_tgnm, e_tgtp, e_tg0, e_tg1, e_sq1, e_sq2, e_sq3, e_sq4, e_sq5, e_qv2, e_qv3, e_qv4, e_qv5, e_data1, e_data2, e_data3, e_okI, e_okB, e_i2, e_sub, e_mul, e_mod, e_div, e_pow, e_lt, e_le, e_gt, e_ge, e_neg, e_addI, e_addS, e_addT, e_addL1, e_addL2, e_addL3, e_addL4, e_addL5, e_addL6, e_addL7, e_addL8, e_addL9, e_eq, e_ne, e_in, e_notIn, e_inT, e_inT2, e_inL1, e_inL2, e_inL3, e_is, e_isNot, e_isN1, e_isN2, e_isN3, e_isN4, e_isN5, e_isN6, e_isN7, e_ixT, e_ixL, e_ixO, e_ixB, e_ixSc, e_lenT, e_lenL, e_lenO, e_lenB, e_lenSc, e_lenS, e_tupT, e_tupL, e_tupO, e_tupB, e_lisT, e_lisL, e_lisO, e_lisB, e_min2, e_max2, e_any, e_all, e_sum, e_sorted, e_rev, e_sl, e_oN, e_isi, e_lc, e_wipe0, e_wipe1, e_iA, e_iAb, e_gAq1, e_gAq2, e_gAq3, e_gAqb1, e_gAqb2, e_gAqb3, e_gAqb4, e_no, e_cCh, e_cChI, e_aug, e_decT, e_decF, e_cDispS, e_cDT, e_cDK, e_cDisp1, e_storeA, e_stR1, e_stR2, e_stR3, e_sd1, e_keyD1, e_keyD2, e_keyTD, e_intsD, e_intsD0, e_borT, e_borT2, e_borK, e_borK2, e_argT, e_argT2, e_argK, e_argK2, e_nbT, e_nbK, e_putT, e_putK, e_gAt1, e_gAt2, e_gAt3, e_gAt4, e_gGetDK, e_gGetDT, e_gIxD, e_gInD, e_gNotInD, e_cGet1, e_cGet2, e_dk1, e_dk2, e_dk3, e_dk4, e_dt1, e_dt2, e_del, atI_zero, e_at1, e_at2, e_at3, e_at4, e_at5, e_at6, e_at7, e_at8, e_at9, e_atm, e_V, e_retV, e_unp, e_app, e_store, e_fzE, oS, rsO_some, Rs.bind_ok, Rs.bind_no, Rs.out_ok, Out.then_nx, Out.then_rt, Out.then_ct, Out.then_bk, fin_rt, fin_nx, List.getElem?_cons_zero, List.getElem?_cons_succ, List.set_cons_succ, List.set_cons_zero, List.length_cons, List.length_nil, Nat.reduceAdd, Nat.reduceLT, Nat.reduceLeDiff, Nat.reduceEqDiff, if_true, if_false, Bool.false_eq_true, Bool.not_true, Bool.not_false, and_self, true_and, and_true, List.map_cons, List.map_nil, Option.map_some, sh_int, sh_bool, sh_none, sh_tup, sh_lst, eqv_int, reduceIte, Option.bind_some, Option.bind_none, kitB_ll, kitB_lt, kitB_tt, kitB_tl, kitB_ii, tyD_list, tyD_int, Bool.true_and, Bool.false_and, Bool.and_true, Bool.and_false, Bool.or_true, Bool.true_or, Bool.false_or, Bool.or_false, Bool.and_self, Bool.or_self, e_cAK, List.append_nil, List.nil_append, List.cons_append, e_andB, e_orB, e_andR, e_orR, tyD_tuple, eqv_bool, eqv_none, tyD_bool, tyD_str, tyD_none, kitB_bb, kitB_nb, kitB_bi, kitB_ib, kitB_nl, kitB_nt, beq_self_eq_true, h1, h2, hk, hg, Option.isSome_none, hfor, hsk, if_pos hKS, hlc]
  | some p =>
    rw [hp] at hg hfor hlc
    have hg : dGet EW ts = some (.tuple [.int (costM ws p), tupD p]) := hg
    generalize tupD p = TP at *
    simp only [Option.map_some, priceD] at hfor hlc ⊢
    simp only [e_nil, e_seq, e_fz, e_bk, e_ct, e_ret, e_retN, e_drop, e_set, e_if, e_for, e_cC, e_c2, e_c1, e_cA, e_aN, e_aC, e_cB, e_asB, e_bNot, e_bAnd, e_bOr, e_vAnd, e_vOr, e_vNot, e_vIf, e_bYes, e_iL, e_iT, e_iLb, e_iR, e_gL1, e_gL2, e_gL3, e_gT, e_gLb1, e_gLb2, e_gLb3, e_gLb4, e_nb1, e_nb2, e_bor1, e_bor2, e_bor3, e_bor4, e_arg1, e_arg2, e_arg3, e_arg4, e_putd, e_puto, e_toD1, e_toD2, e_allD0, e_allD1, e_allD2, e_gTupl, e_gList, e_tgnm, e_tgtp, e_tg0, e_tg1, e_sq1, e_sq2, e_sq3, e_sq4, e_sq5, e_qv2, e_qv3, e_qv4, e_qv5, e_data1, e_data2, e_data3, e_okI, e_okB, e_i2, e_sub, e_mul, e_mod, e_div, e_pow, e_lt, e_le, e_gt, e_ge, e_neg, e_addI, e_addS, e_addT, e_addL1, e_addL2, e_addL3, e_addL4, e_addL5, e_addL6, e_addL7, e_addL8, e_addL9, e_eq, e_ne, e_in, e_notIn, e_inT, e_inT2, e_inL1, e_inL2, e_inL3, e_is, e_isNot, e_isN1, e_isN2, e_isN3, e_isN4, e_isN5, e_isN6, e_isN7, e_ixT, e_ixL, e_ixO, e_ixB, e_ixSc, e_lenT, e_lenL, e_lenO, e_lenB, e_lenSc, e_lenS, e_tupT, e_tupL, e_tupO, e_tupB, e_lisT, e_lisL, e_lisO, e_lisB, e_min2, e_max2, e_any, e_all, e_sum, e_sorted, e_rev, e_sl, e_oN, e_isi, e_lc, e_wipe0, e_wipe1, e_iA, e_iAb, e_gAq1, e_gAq2, e_gAq3, e_gAqb1, e_gAqb2, e_gAqb3, e_gAqb4, e_no, e_cCh, e_cChI, e_aug, e_decT, e_decF, e_cDispS, e_cDT, e_cDK, e_cDisp1, e_storeA, e_stR1, e_stR2, e_stR3, e_sd1, e_keyD1, e_keyD2, e_keyTD, e_intsD, e_intsD0, e_borT, e_borT2, e_borK, e_borK2, e_argT, e_argT2, e_argK, e_argK2, e_nbT, e_nbK, e_putT, e_putK, e_gAt1, e_gAt2, e_gAt3, e_gAt4, e_gGetDK, e_gGetDT, e_gIxD, e_gInD, e_gNotInD, e_cGet1, e_cGet2, e_dk1, e_dk2, e_dk3, e_dk4, e_dt1, e_dt2, e_del, atI_zero, e_at1, e_at2, e_at3, e_at4, e_at5, e_at6, e_at7, e_at8, e_at9, e_atm, e_V, e_retV, e_unp, e_app, e_store, e_fzE, oS, rsO_some, Rs.bind_ok, Rs.bind_no, Rs.out_ok, Out.then_nx, Out.then_rt, Out.then_ct, Out.then_bk, fin_rt, fin_nx, List.getElem?_cons_zero, List.getElem?_cons_succ, List.set_cons_succ, List.set_cons_zero, List.length_cons, List.length_nil, Nat.reduceAdd, Nat.reduceLT, Nat.reduceLeDiff, Nat.reduceEqDiff, if_true, if_false, Bool.false_eq_true, Bool.not_true, Bool.not_false, and_self, true_and, and_true, List.map_cons, List.map_nil, Option.map_some, sh_int, sh_bool, sh_none, sh_tup, sh_lst, eqv_int, reduceIte, Option.bind_some, Option.bind_none, kitB_ll, kitB_lt, kitB_tt, kitB_tl, kitB_ii, tyD_list, tyD_int, Bool.true_and, Bool.false_and, Bool.and_true, Bool.and_false, Bool.or_true, Bool.true_or, Bool.false_or, Bool.or_false, Bool.and_self, Bool.or_self, e_cAK, List.append_nil, List.nil_append, List.cons_append, e_andB, e_orB, e_andR, e_orR, tyD_tuple, eqv_bool, eqv_none, tyD_bool, tyD_str, tyD_none, kitB_bb, kitB_nb, kitB_bi, kitB_ib, kitB_nl, kitB_nt, beq_self_eq_true, h1, h2, hk, hg, Option.isSome_some, hfor, hsk, if_pos hKS, hlc]
theorem paper_in {us : List (List Int)} {ws : List Int} (r : Nat) (T : List (List Int × List Int)) (price : Option Int) {kvs : List (List Int × PyData)} (hget : ∀ c, dGet kvs c = ((tget T c).map (pc ws)).map encL) (a1 a3 a10 : Option RV) (hu : us.length ≤ 8) (hw : ∀ s, (usAt us s).length ≤ 1000000) (c : List Int) (hcl : c.length ≤ 800) (hnx : ∀ x ∈ succM us r c, Cf us.length x.2 ∧ (tget T x.2).isSome = true) : ∀ (ms : List Nat) (S : List (List Int)) (e8 e9 : Option RV), plnO e8 = true → plnO e9 = true → SOk us.length S → (∀ m ∈ ms, m < us.length) →
    ∃ e8' e9', plnO e8' = true ∧ plnO e9' = true ∧ loopF (.nm 8) L0__law_price_paper (ms.map natI) [some (.d (.tuple (encU us))), a1, some (.d (.int (r : Int))), a3, some (.bt kvs), some (.d (priceD price)), some (.ot (encB (valM ws T price) S)), some (.d (tupD c)), e8, e9, a10]
      = .nx [some (.d (.tuple (encU us))), a1, some (.d (.int (r : Int))), a3, some (.bt kvs), some (.d (priceD price)), some (.ot (encB (valM ws T price) (addsS S ((ms.filter (okM us r c)).map fun m : Nat => ((m : Int), movM c m))))), some (.d (tupD c)), e8', e9', a10] ∧ SOk us.length (addsS S ((ms.filter (okM us r c)).map fun m : Nat => ((m : Int), movM c m)))
  | [], S, e8, e9, q8, q9, hS, _ => ⟨e8, e9, q8, q9, rfl, hS⟩
  | m :: ms, S, e8, e9, q8, q9, hS, hm => by
    have hm0 := hm m List.mem_cons_self
    have p1 : F__law_can [.d (.tuple (encU us)), .d (tupD c), .d (.int (m : Int))] = .ok (.d (.bool (canM us c (m : Int)))) := law_can_ok us c (m : Int) (by omega) (by omega) (hw _)
    have p2 : F__law_moved [.d (tupD c), .d (.int (m : Int))] = .ok (.d (tupD (movM c (m : Int)))) := law_moved_ok c (m : Int) (by omega)
    have hln : gLen [.d (tupD (movM c (m : Int)))] = .ok (.d (.int (movM c (m : Int)).length)) := by rw [tupD, e_lenT, List.length_map]
    have htg : tgE (.nm 8) (natI m) [some (.d (.tuple (encU us))), a1, some (.d (.int (r : Int))), a3, some (.bt kvs), some (.d (priceD price)), some (.ot (encB (valM ws T price) S)), some (.d (tupD c)), e8, e9, a10] = some [some (.d (.tuple (encU us))), a1, some (.d (.int (r : Int))), a3, some (.bt kvs), some (.d (priceD price)), some (.ot (encB (valM ws T price) S)), some (.d (tupD c)), some (.d (.int (m : Int))), e9, a10] := rfl
    rw [List.map_cons, loopF_cons, htg]
    by_cases c1 : canM us c (m : Int) = true
    · by_cases c2 : (movM c (m : Int)).length ≤ r
      · have ok : okM us r c m = true := by unfold okM; rw [c1, decide_eq_true c2]; rfl
        obtain ⟨cq, tq⟩ := hnx ((m : Int), movM c m) (succM_mem.mpr ⟨⟨by omega, by omega, c1, c2⟩, rfl⟩)
        obtain ⟨p, hp⟩ := Option.isSome_iff_exists.mp tq
        simp only at hp cq
        have hst : addsS S (((m :: ms).filter (okM us r c)).map fun m : Nat => ((m : Int), movM c m)) = addsS (addS S (movM c m)) ((ms.filter (okM us r c)).map fun m : Nat => ((m : Int), movM c m)) := by
          rw [List.filter_cons_of_pos ok, List.map_cons]
          rfl
        rw [hst]
        obtain ⟨e8', e9', j8, j9, ih, hS3⟩ := paper_in r T price hget a1 a3 a10 hu hw c hcl hnx ms (addS S (movM c m)) (some (.d (.int (m : Int)))) (some (.d (tupD (movM c (m : Int))))) rfl rfl (hS.add cq) fun x hx => hm x (List.mem_cons_of_mem _ hx)
        refine ⟨e8', e9', j8, j9, ?_, hS3⟩
        generalize hQ : movM c (m : Int) = q at *
        have g1 : dGet kvs q = some (.tuple [.int (costM ws p), .int (p.length : Int)]) := by rw [hget, hp]; rfl
        have hk : keyTD (tupD q) = some q := intsD_map q
        have hv : valM ws T price q = minO price (costM ws p) := by unfold valM leastM; rw [hp]
        have hl : (encB (valM ws T price) S).length ≤ 1000000 := by rw [len_B]; have := hS.len hu; omega
        have hput := dPut_B (valM ws T price) S q
        rw [hv] at hput
        have hl2 : (dPut (encB (valM ws T price) S) q (.int (costM ws p))).length ≤ 1000000 := by
          by_cases h : (dGet (encB (valM ws T price) S) q).isSome = true
          · have := congrArg List.length (dPut_keys_old (.int (costM ws p)) h)
            rw [List.length_map, List.length_map] at this
            rw [this]; exact hl
          · rw [dPut_new _ (by simpa using h), List.length_append, List.length_singleton, len_B]
            have := hS.len hu
            omega
        have hdec : decide (((q.length : Nat) : Int) ≤ (r : Int)) = true := decide_eq_true (by omega)
        have hb : L0__law_price_paper [some (.d (.tuple (encU us))), a1, some (.d (.int (r : Int))), a3, some (.bt kvs), some (.d (priceD price)), some (.ot (encB (valM ws T price) S)), some (.d (tupD c)), some (.d (.int (m : Int))), e9, a10] = .nx [some (.d (.tuple (encU us))), a1, some (.d (.int (r : Int))), a3, some (.bt kvs), some (.d (priceD price)), some (.ot (encB (valM ws T price) (addS S q))), some (.d (tupD c)), some (.d (.int (m : Int))), some (.d (tupD q)), a10] := by
          unfold L0__law_price_paper
          generalize encU us = EU at *
          cases price with
          | none =>
            have hput : dPut (encB (valM ws T none) S) q (.int (costM ws p)) = _ := hput
            generalize tupD q = TQ at *
            generalize tupD c = TC at *
            simp only [e_nil, e_seq, e_fz, e_bk, e_ct, e_ret, e_retN, e_drop, e_set, e_if, e_for, e_cC, e_c2, e_c1, e_cA, e_aN, e_aC, e_cB, e_asB, e_bNot, e_bAnd, e_bOr, e_vAnd, e_vOr, e_vNot, e_vIf, e_bYes, e_iL, e_iT, e_iLb, e_iR, e_gL1, e_gL2, e_gL3, e_gT, e_gLb1, e_gLb2, e_gLb3, e_gLb4, e_nb1, e_nb2, e_bor1, e_bor2, e_bor3, e_bor4, e_arg1, e_arg2, e_arg3, e_arg4, e_putd, e_puto, e_toD1, e_toD2, e_allD0, e_allD1, e_allD2, e_gTupl, e_gList, e_tgnm, e_tgtp, e_tg0, e_tg1, e_sq1, e_sq2, e_sq3, e_sq4, e_sq5, e_qv2, e_qv3, e_qv4, e_qv5, e_data1, e_data2, e_data3, e_okI, e_okB, e_i2, e_sub, e_mul, e_mod, e_div, e_pow, e_lt, e_le, e_gt, e_ge, e_neg, e_addI, e_addS, e_addT, e_addL1, e_addL2, e_addL3, e_addL4, e_addL5, e_addL6, e_addL7, e_addL8, e_addL9, e_eq, e_ne, e_in, e_notIn, e_inT, e_inT2, e_inL1, e_inL2, e_inL3, e_is, e_isNot, e_isN1, e_isN2, e_isN3, e_isN4, e_isN5, e_isN6, e_isN7, e_ixT, e_ixL, e_ixO, e_ixB, e_ixSc, e_lenT, e_lenL, e_lenO, e_lenB, e_lenSc, e_lenS, e_tupT, e_tupL, e_tupO, e_tupB, e_lisT, e_lisL, e_lisO, e_lisB, e_min2, e_max2, e_any, e_all, e_sum, e_sorted, e_rev, e_sl, e_oN, e_isi, e_lc, e_wipe0, e_wipe1, e_iA, e_iAb, e_gAq1, e_gAq2, e_gAq3, e_gAqb1, e_gAqb2, e_gAqb3, e_gAqb4, e_no, e_cCh, e_cChI, e_aug, e_decT, e_decF, e_cDispS, e_cDT, e_cDK, e_cDisp1, e_storeA, e_stR1, e_stR2, e_stR3, e_sd1, e_keyD1, e_keyD2, e_keyTD, e_intsD, e_intsD0, e_borT, e_borT2, e_borK, e_borK2, e_argT, e_argT2, e_argK, e_argK2, e_nbT, e_nbK, e_putT, e_putK, e_gAt1, e_gAt2, e_gAt3, e_gAt4, e_gGetDK, e_gGetDT, e_gIxD, e_gInD, e_gNotInD, e_cGet1, e_cGet2, e_dk1, e_dk2, e_dk3, e_dk4, e_dt1, e_dt2, e_del, atI_zero, e_at1, e_at2, e_at3, e_at4, e_at5, e_at6, e_at7, e_at8, e_at9, e_atm, e_V, e_retV, e_unp, e_app, e_store, e_fzE, oS, rsO_some, Rs.bind_ok, Rs.bind_no, Rs.out_ok, Out.then_nx, Out.then_rt, Out.then_ct, Out.then_bk, fin_rt, fin_nx, List.getElem?_cons_zero, List.getElem?_cons_succ, List.set_cons_succ, List.set_cons_zero, List.length_cons, List.length_nil, Nat.reduceAdd, Nat.reduceLT, Nat.reduceLeDiff, Nat.reduceEqDiff, if_true, if_false, Bool.false_eq_true, Bool.not_true, Bool.not_false, and_self, true_and, and_true, List.map_cons, List.map_nil, Option.map_some, sh_int, sh_bool, sh_none, sh_tup, sh_lst, eqv_int, reduceIte, Option.bind_some, Option.bind_none, kitB_ll, kitB_lt, kitB_tt, kitB_tl, kitB_ii, tyD_list, tyD_int, Bool.true_and, Bool.false_and, Bool.and_true, Bool.and_false, Bool.or_true, Bool.true_or, Bool.false_or, Bool.or_false, Bool.and_self, Bool.or_self, e_cAK, List.append_nil, List.nil_append, List.cons_append, e_andB, e_orB, e_andR, e_orR, tyD_tuple, eqv_bool, eqv_none, tyD_bool, tyD_str, tyD_none, kitB_bb, kitB_nb, kitB_bi, kitB_ib, kitB_nl, kitB_nt, beq_self_eq_true, p1, c1, p2, hln, hdec, priceD, isNone, hk, g1, if_pos hl, hput]
          | some x =>
            have hput : dPut (encB (valM ws T (some x)) S) q (.int (min x (costM ws p))) = _ := hput
            rw [← dPut_put _ q (.int (costM ws p))] at hput
            generalize encB (valM ws T (some x)) S = EB at *
            generalize encB (valM ws T (some x)) (addS S q) = EB2 at *
            generalize tupD q = TQ at *
            generalize tupD c = TC at *
            simp only [e_nil, e_seq, e_fz, e_bk, e_ct, e_ret, e_retN, e_drop, e_set, e_if, e_for, e_cC, e_c2, e_c1, e_cA, e_aN, e_aC, e_cB, e_asB, e_bNot, e_bAnd, e_bOr, e_vAnd, e_vOr, e_vNot, e_vIf, e_bYes, e_iL, e_iT, e_iLb, e_iR, e_gL1, e_gL2, e_gL3, e_gT, e_gLb1, e_gLb2, e_gLb3, e_gLb4, e_nb1, e_nb2, e_bor1, e_bor2, e_bor3, e_bor4, e_arg1, e_arg2, e_arg3, e_arg4, e_putd, e_puto, e_toD1, e_toD2, e_allD0, e_allD1, e_allD2, e_gTupl, e_gList, e_tgnm, e_tgtp, e_tg0, e_tg1, e_sq1, e_sq2, e_sq3, e_sq4, e_sq5, e_qv2, e_qv3, e_qv4, e_qv5, e_data1, e_data2, e_data3, e_okI, e_okB, e_i2, e_sub, e_mul, e_mod, e_div, e_pow, e_lt, e_le, e_gt, e_ge, e_neg, e_addI, e_addS, e_addT, e_addL1, e_addL2, e_addL3, e_addL4, e_addL5, e_addL6, e_addL7, e_addL8, e_addL9, e_eq, e_ne, e_in, e_notIn, e_inT, e_inT2, e_inL1, e_inL2, e_inL3, e_is, e_isNot, e_isN1, e_isN2, e_isN3, e_isN4, e_isN5, e_isN6, e_isN7, e_ixT, e_ixL, e_ixO, e_ixB, e_ixSc, e_lenT, e_lenL, e_lenO, e_lenB, e_lenSc, e_lenS, e_tupT, e_tupL, e_tupO, e_tupB, e_lisT, e_lisL, e_lisO, e_lisB, e_min2, e_max2, e_any, e_all, e_sum, e_sorted, e_rev, e_sl, e_oN, e_isi, e_lc, e_wipe0, e_wipe1, e_iA, e_iAb, e_gAq1, e_gAq2, e_gAq3, e_gAqb1, e_gAqb2, e_gAqb3, e_gAqb4, e_no, e_cCh, e_cChI, e_aug, e_decT, e_decF, e_cDispS, e_cDT, e_cDK, e_cDisp1, e_storeA, e_stR1, e_stR2, e_stR3, e_sd1, e_keyD1, e_keyD2, e_keyTD, e_intsD, e_intsD0, e_borT, e_borT2, e_borK, e_borK2, e_argT, e_argT2, e_argK, e_argK2, e_nbT, e_nbK, e_putT, e_putK, e_gAt1, e_gAt2, e_gAt3, e_gAt4, e_gGetDK, e_gGetDT, e_gIxD, e_gInD, e_gNotInD, e_cGet1, e_cGet2, e_dk1, e_dk2, e_dk3, e_dk4, e_dt1, e_dt2, e_del, atI_zero, e_at1, e_at2, e_at3, e_at4, e_at5, e_at6, e_at7, e_at8, e_at9, e_atm, e_V, e_retV, e_unp, e_app, e_store, e_fzE, oS, rsO_some, Rs.bind_ok, Rs.bind_no, Rs.out_ok, Out.then_nx, Out.then_rt, Out.then_ct, Out.then_bk, fin_rt, fin_nx, List.getElem?_cons_zero, List.getElem?_cons_succ, List.set_cons_succ, List.set_cons_zero, List.length_cons, List.length_nil, Nat.reduceAdd, Nat.reduceLT, Nat.reduceLeDiff, Nat.reduceEqDiff, if_true, if_false, Bool.false_eq_true, Bool.not_true, Bool.not_false, and_self, true_and, and_true, List.map_cons, List.map_nil, Option.map_some, sh_int, sh_bool, sh_none, sh_tup, sh_lst, eqv_int, reduceIte, Option.bind_some, Option.bind_none, kitB_ll, kitB_lt, kitB_tt, kitB_tl, kitB_ii, tyD_list, tyD_int, Bool.true_and, Bool.false_and, Bool.and_true, Bool.and_false, Bool.or_true, Bool.true_or, Bool.false_or, Bool.or_false, Bool.and_self, Bool.or_self, e_cAK, List.append_nil, List.nil_append, List.cons_append, e_andB, e_orB, e_andR, e_orR, tyD_tuple, eqv_bool, eqv_none, tyD_bool, tyD_str, tyD_none, kitB_bb, kitB_nb, kitB_bi, kitB_ib, kitB_nl, kitB_nt, beq_self_eq_true, p1, c1, p2, hln, hdec, priceD, isNone, hk, g1, if_pos hl, if_pos hl2, min_if, hput]
        simp only [hb, lp_nx]
        exact ih
      · have ok : ¬ okM us r c m = true := by unfold okM; rw [c1, decide_eq_false c2]; simp
        have hst : addsS S (((m :: ms).filter (okM us r c)).map fun m : Nat => ((m : Int), movM c m)) = addsS S ((ms.filter (okM us r c)).map fun m : Nat => ((m : Int), movM c m)) := by
          rw [List.filter_cons_of_neg ok]
        rw [hst]
        obtain ⟨e8', e9', j8, j9, ih, hS3⟩ := paper_in r T price hget a1 a3 a10 hu hw c hcl hnx ms S (some (.d (.int (m : Int)))) (some (.d (tupD (movM c (m : Int))))) rfl rfl hS fun x hx => hm x (List.mem_cons_of_mem _ hx)
        refine ⟨e8', e9', j8, j9, ?_, hS3⟩
        have hdec : decide (((movM c (m : Int)).length : Int) ≤ (r : Int)) = false := decide_eq_false (by omega)
        have hb : L0__law_price_paper [some (.d (.tuple (encU us))), a1, some (.d (.int (r : Int))), a3, some (.bt kvs), some (.d (priceD price)), some (.ot (encB (valM ws T price) S)), some (.d (tupD c)), some (.d (.int (m : Int))), e9, a10] = .nx [some (.d (.tuple (encU us))), a1, some (.d (.int (r : Int))), a3, some (.bt kvs), some (.d (priceD price)), some (.ot (encB (valM ws T price) S)), some (.d (tupD c)), some (.d (.int (m : Int))), some (.d (tupD (movM c (m : Int)))), a10] := by
          unfold L0__law_price_paper
          generalize encU us = EU at *
          generalize encB (valM ws T price) S = EB at *
          generalize movM c (m : Int) = q at *
          generalize tupD q = TQ at *
          generalize tupD c = TC at *
          simp only [e_nil, e_seq, e_fz, e_bk, e_ct, e_ret, e_retN, e_drop, e_set, e_if, e_for, e_cC, e_c2, e_c1, e_cA, e_aN, e_aC, e_cB, e_asB, e_bNot, e_bAnd, e_bOr, e_vAnd, e_vOr, e_vNot, e_vIf, e_bYes, e_iL, e_iT, e_iLb, e_iR, e_gL1, e_gL2, e_gL3, e_gT, e_gLb1, e_gLb2, e_gLb3, e_gLb4, e_nb1, e_nb2, e_bor1, e_bor2, e_bor3, e_bor4, e_arg1, e_arg2, e_arg3, e_arg4, e_putd, e_puto, e_toD1, e_toD2, e_allD0, e_allD1, e_allD2, e_gTupl, e_gList, e_tgnm, e_tgtp, e_tg0, e_tg1, e_sq1, e_sq2, e_sq3, e_sq4, e_sq5, e_qv2, e_qv3, e_qv4, e_qv5, e_data1, e_data2, e_data3, e_okI, e_okB, e_i2, e_sub, e_mul, e_mod, e_div, e_pow, e_lt, e_le, e_gt, e_ge, e_neg, e_addI, e_addS, e_addT, e_addL1, e_addL2, e_addL3, e_addL4, e_addL5, e_addL6, e_addL7, e_addL8, e_addL9, e_eq, e_ne, e_in, e_notIn, e_inT, e_inT2, e_inL1, e_inL2, e_inL3, e_is, e_isNot, e_isN1, e_isN2, e_isN3, e_isN4, e_isN5, e_isN6, e_isN7, e_ixT, e_ixL, e_ixO, e_ixB, e_ixSc, e_lenT, e_lenL, e_lenO, e_lenB, e_lenSc, e_lenS, e_tupT, e_tupL, e_tupO, e_tupB, e_lisT, e_lisL, e_lisO, e_lisB, e_min2, e_max2, e_any, e_all, e_sum, e_sorted, e_rev, e_sl, e_oN, e_isi, e_lc, e_wipe0, e_wipe1, e_iA, e_iAb, e_gAq1, e_gAq2, e_gAq3, e_gAqb1, e_gAqb2, e_gAqb3, e_gAqb4, e_no, e_cCh, e_cChI, e_aug, e_decT, e_decF, e_cDispS, e_cDT, e_cDK, e_cDisp1, e_storeA, e_stR1, e_stR2, e_stR3, e_sd1, e_keyD1, e_keyD2, e_keyTD, e_intsD, e_intsD0, e_borT, e_borT2, e_borK, e_borK2, e_argT, e_argT2, e_argK, e_argK2, e_nbT, e_nbK, e_putT, e_putK, e_gAt1, e_gAt2, e_gAt3, e_gAt4, e_gGetDK, e_gGetDT, e_gIxD, e_gInD, e_gNotInD, e_cGet1, e_cGet2, e_dk1, e_dk2, e_dk3, e_dk4, e_dt1, e_dt2, e_del, atI_zero, e_at1, e_at2, e_at3, e_at4, e_at5, e_at6, e_at7, e_at8, e_at9, e_atm, e_V, e_retV, e_unp, e_app, e_store, e_fzE, oS, rsO_some, Rs.bind_ok, Rs.bind_no, Rs.out_ok, Out.then_nx, Out.then_rt, Out.then_ct, Out.then_bk, fin_rt, fin_nx, List.getElem?_cons_zero, List.getElem?_cons_succ, List.set_cons_succ, List.set_cons_zero, List.length_cons, List.length_nil, Nat.reduceAdd, Nat.reduceLT, Nat.reduceLeDiff, Nat.reduceEqDiff, if_true, if_false, Bool.false_eq_true, Bool.not_true, Bool.not_false, and_self, true_and, and_true, List.map_cons, List.map_nil, Option.map_some, sh_int, sh_bool, sh_none, sh_tup, sh_lst, eqv_int, reduceIte, Option.bind_some, Option.bind_none, kitB_ll, kitB_lt, kitB_tt, kitB_tl, kitB_ii, tyD_list, tyD_int, Bool.true_and, Bool.false_and, Bool.and_true, Bool.and_false, Bool.or_true, Bool.true_or, Bool.false_or, Bool.or_false, Bool.and_self, Bool.or_self, e_cAK, List.append_nil, List.nil_append, List.cons_append, e_andB, e_orB, e_andR, e_orR, tyD_tuple, eqv_bool, eqv_none, tyD_bool, tyD_str, tyD_none, kitB_bb, kitB_nb, kitB_bi, kitB_ib, kitB_nl, kitB_nt, beq_self_eq_true, p1, c1, p2, hln, hdec]
        simp only [hb, lp_nx]
        exact ih
    · have c1' : canM us c (m : Int) = false := by simpa using c1
      have ok : ¬ okM us r c m = true := by unfold okM; rw [c1']; simp
      have hst : addsS S (((m :: ms).filter (okM us r c)).map fun m : Nat => ((m : Int), movM c m)) = addsS S ((ms.filter (okM us r c)).map fun m : Nat => ((m : Int), movM c m)) := by
        rw [List.filter_cons_of_neg ok]
      rw [hst]
      obtain ⟨e8', e9', j8, j9, ih, hS3⟩ := paper_in r T price hget a1 a3 a10 hu hw c hcl hnx ms S (some (.d (.int (m : Int)))) e9 rfl q9 hS fun x hx => hm x (List.mem_cons_of_mem _ hx)
      refine ⟨e8', e9', j8, j9, ?_, hS3⟩
      have hb : L0__law_price_paper [some (.d (.tuple (encU us))), a1, some (.d (.int (r : Int))), a3, some (.bt kvs), some (.d (priceD price)), some (.ot (encB (valM ws T price) S)), some (.d (tupD c)), some (.d (.int (m : Int))), e9, a10] = .nx [some (.d (.tuple (encU us))), a1, some (.d (.int (r : Int))), a3, some (.bt kvs), some (.d (priceD price)), some (.ot (encB (valM ws T price) S)), some (.d (tupD c)), some (.d (.int (m : Int))), e9, a10] := by
        unfold L0__law_price_paper
        generalize encU us = EU at *
        generalize encB (valM ws T price) S = EB at *
        generalize tupD c = TC at *
        simp only [e_nil, e_seq, e_fz, e_bk, e_ct, e_ret, e_retN, e_drop, e_set, e_if, e_for, e_cC, e_c2, e_c1, e_cA, e_aN, e_aC, e_cB, e_asB, e_bNot, e_bAnd, e_bOr, e_vAnd, e_vOr, e_vNot, e_vIf, e_bYes, e_iL, e_iT, e_iLb, e_iR, e_gL1, e_gL2, e_gL3, e_gT, e_gLb1, e_gLb2, e_gLb3, e_gLb4, e_nb1, e_nb2, e_bor1, e_bor2, e_bor3, e_bor4, e_arg1, e_arg2, e_arg3, e_arg4, e_putd, e_puto, e_toD1, e_toD2, e_allD0, e_allD1, e_allD2, e_gTupl, e_gList, e_tgnm, e_tgtp, e_tg0, e_tg1, e_sq1, e_sq2, e_sq3, e_sq4, e_sq5, e_qv2, e_qv3, e_qv4, e_qv5, e_data1, e_data2, e_data3, e_okI, e_okB, e_i2, e_sub, e_mul, e_mod, e_div, e_pow, e_lt, e_le, e_gt, e_ge, e_neg, e_addI, e_addS, e_addT, e_addL1, e_addL2, e_addL3, e_addL4, e_addL5, e_addL6, e_addL7, e_addL8, e_addL9, e_eq, e_ne, e_in, e_notIn, e_inT, e_inT2, e_inL1, e_inL2, e_inL3, e_is, e_isNot, e_isN1, e_isN2, e_isN3, e_isN4, e_isN5, e_isN6, e_isN7, e_ixT, e_ixL, e_ixO, e_ixB, e_ixSc, e_lenT, e_lenL, e_lenO, e_lenB, e_lenSc, e_lenS, e_tupT, e_tupL, e_tupO, e_tupB, e_lisT, e_lisL, e_lisO, e_lisB, e_min2, e_max2, e_any, e_all, e_sum, e_sorted, e_rev, e_sl, e_oN, e_isi, e_lc, e_wipe0, e_wipe1, e_iA, e_iAb, e_gAq1, e_gAq2, e_gAq3, e_gAqb1, e_gAqb2, e_gAqb3, e_gAqb4, e_no, e_cCh, e_cChI, e_aug, e_decT, e_decF, e_cDispS, e_cDT, e_cDK, e_cDisp1, e_storeA, e_stR1, e_stR2, e_stR3, e_sd1, e_keyD1, e_keyD2, e_keyTD, e_intsD, e_intsD0, e_borT, e_borT2, e_borK, e_borK2, e_argT, e_argT2, e_argK, e_argK2, e_nbT, e_nbK, e_putT, e_putK, e_gAt1, e_gAt2, e_gAt3, e_gAt4, e_gGetDK, e_gGetDT, e_gIxD, e_gInD, e_gNotInD, e_cGet1, e_cGet2, e_dk1, e_dk2, e_dk3, e_dk4, e_dt1, e_dt2, e_del, atI_zero, e_at1, e_at2, e_at3, e_at4, e_at5, e_at6, e_at7, e_at8, e_at9, e_atm, e_V, e_retV, e_unp, e_app, e_store, e_fzE, oS, rsO_some, Rs.bind_ok, Rs.bind_no, Rs.out_ok, Out.then_nx, Out.then_rt, Out.then_ct, Out.then_bk, fin_rt, fin_nx, List.getElem?_cons_zero, List.getElem?_cons_succ, List.set_cons_succ, List.set_cons_zero, List.length_cons, List.length_nil, Nat.reduceAdd, Nat.reduceLT, Nat.reduceLeDiff, Nat.reduceEqDiff, if_true, if_false, Bool.false_eq_true, Bool.not_true, Bool.not_false, and_self, true_and, and_true, List.map_cons, List.map_nil, Option.map_some, sh_int, sh_bool, sh_none, sh_tup, sh_lst, eqv_int, reduceIte, Option.bind_some, Option.bind_none, kitB_ll, kitB_lt, kitB_tt, kitB_tl, kitB_ii, tyD_list, tyD_int, Bool.true_and, Bool.false_and, Bool.and_true, Bool.and_false, Bool.or_true, Bool.true_or, Bool.false_or, Bool.or_false, Bool.and_self, Bool.or_self, e_cAK, List.append_nil, List.nil_append, List.cons_append, e_andB, e_orB, e_andR, e_orR, tyD_tuple, eqv_bool, eqv_none, tyD_bool, tyD_str, tyD_none, kitB_bb, kitB_nb, kitB_bi, kitB_ib, kitB_nl, kitB_nt, beq_self_eq_true, p1, c1']
      simp only [hb, lp_nx]
      exact ih
theorem paper_out {us : List (List Int)} {ws : List Int} (r : Nat) (T : List (List Int × List Int)) (price : Option Int) {kvs : List (List Int × PyData)} (hget : ∀ c, dGet kvs c = ((tget T c).map (pc ws)).map encL) (a1 a3 a10 : Option RV) (hu : us.length ≤ 8) (hw : ∀ s, (usAt us s).length ≤ 1000000)
    (next : ∀ c, (tget T c).isSome = true → Cf us.length c ∧ c.length ≤ 800 ∧ ∀ x ∈ succM us r c, Cf us.length x.2 ∧ (tget T x.2).isSome = true) : ∀ (ks : List (List Int)) (S : List (List Int)) (e7 e8 e9 : Option RV), plnO e7 = true → plnO e8 = true → plnO e9 = true → SOk us.length S → (∀ c ∈ ks, (tget T c).isSome = true) →
    ∃ e7' e8' e9', plnO e7' = true ∧ plnO e8' = true ∧ plnO e9' = true ∧ loopF (.nm 7) L1__law_price_paper (ks.map tupD) [some (.d (.tuple (encU us))), a1, some (.d (.int (r : Int))), a3, some (.bt kvs), some (.d (priceD price)), some (.ot (encB (valM ws T price) S)), e7, e8, e9, a10]
      = .nx [some (.d (.tuple (encU us))), a1, some (.d (.int (r : Int))), a3, some (.bt kvs), some (.d (priceD price)), some (.ot (encB (valM ws T price) (allS (fun c => lessO price (leastM ws T c)) (succM us r) ks S))), e7', e8', e9', a10] ∧ SOk us.length (allS (fun c => lessO price (leastM ws T c)) (succM us r) ks S)
  | [], S, e7, e8, e9, q7, q8, q9, hS, _ => ⟨e7, e8, e9, q7, q8, q9, rfl, hS⟩
  | c :: ks, S, e7, e8, e9, q7, q8, q9, hS, hk => by
    have hc := hk c List.mem_cons_self
    obtain ⟨cf, cl, nx⟩ := next c hc
    obtain ⟨p, hp⟩ := Option.isSome_iff_exists.mp hc
    have g1 : dGet kvs c = some (.tuple [.int (costM ws p), .int (p.length : Int)]) := by rw [hget, hp]; rfl
    have hkt : keyTD (tupD c) = some c := intsD_map c
    have hv : leastM ws T c = costM ws p := by unfold leastM; rw [hp]
    have hr := e_R1n (n := us.length) (by omega)
    rw [rng_nat] at hr
    have hln := encU_len us
    rw [List.map_cons, loopF_cons]
    have htg : tgE (.nm 7) (tupD c) [some (.d (.tuple (encU us))), a1, some (.d (.int (r : Int))), a3, some (.bt kvs), some (.d (priceD price)), some (.ot (encB (valM ws T price) S)), e7, e8, e9, a10] = some [some (.d (.tuple (encU us))), a1, some (.d (.int (r : Int))), a3, some (.bt kvs), some (.d (priceD price)), some (.ot (encB (valM ws T price) S)), some (.d (tupD c)), e8, e9, a10] := rfl
    rw [htg]
    by_cases hgo : lessO price (leastM ws T c) = true
    · obtain ⟨f8, f9, q8, q9, hin, hS2⟩ := paper_in r T price hget a1 a3 a10 hu hw c cl nx (List.range us.length) S e8 e9 q8 q9 hS fun m hm => List.mem_range.mp hm
      obtain ⟨e7', e8', e9', j7, j8, j9, ih, hS3⟩ := paper_out r T price hget a1 a3 a10 hu hw next ks (addsS S (succM us r c)) (some (.d (tupD c))) f8 f9 rfl q8 q9 hS2 fun x hx => hk x (List.mem_cons_of_mem _ hx)
      have hst : allS (fun c => lessO price (leastM ws T c)) (succM us r) (c :: ks) S = allS (fun c => lessO price (leastM ws T c)) (succM us r) ks (addsS S (succM us r c)) := by
        show List.foldl _ _ _ = _
        rw [List.foldl_cons, if_pos hgo]
        rfl
      rw [hst]
      refine ⟨e7', e8', e9', j7, j8, j9, ?_, hS3⟩
      have hin : _ = Out.nx [some (.d (.tuple (encU us))), a1, some (.d (.int (r : Int))), a3, some (.bt kvs), some (.d (priceD price)), some (.ot (encB (valM ws T price) (addsS S (succM us r c)))), some (.d (tupD c)), f8, f9, a10] := hin
      have hb : L1__law_price_paper [some (.d (.tuple (encU us))), a1, some (.d (.int (r : Int))), a3, some (.bt kvs), some (.d (priceD price)), some (.ot (encB (valM ws T price) S)), some (.d (tupD c)), e8, e9, a10] = .nx [some (.d (.tuple (encU us))), a1, some (.d (.int (r : Int))), a3, some (.bt kvs), some (.d (priceD price)), some (.ot (encB (valM ws T price) (addsS S (succM us r c)))), some (.d (tupD c)), f8, f9, a10] := by
        unfold L1__law_price_paper
        rw [hv] at hgo
        generalize tupD c = TC at *
        generalize encU us = EU at *
        generalize encB (valM ws T price) S = EB at *
        generalize encB (valM ws T price) (addsS S (succM us r c)) = EB2 at *
        cases price with
        | none =>
          simp only [priceD] at hin ⊢
          simp only [e_nil, e_seq, e_fz, e_bk, e_ct, e_ret, e_retN, e_drop, e_set, e_if, e_for, e_cC, e_c2, e_c1, e_cA, e_aN, e_aC, e_cB, e_asB, e_bNot, e_bAnd, e_bOr, e_vAnd, e_vOr, e_vNot, e_vIf, e_bYes, e_iL, e_iT, e_iLb, e_iR, e_gL1, e_gL2, e_gL3, e_gT, e_gLb1, e_gLb2, e_gLb3, e_gLb4, e_nb1, e_nb2, e_bor1, e_bor2, e_bor3, e_bor4, e_arg1, e_arg2, e_arg3, e_arg4, e_putd, e_puto, e_toD1, e_toD2, e_allD0, e_allD1, e_allD2, e_gTupl, e_gList, e_tgnm, e_tgtp, e_tg0, e_tg1, e_sq1, e_sq2, e_sq3, e_sq4, e_sq5, e_qv2, e_qv3, e_qv4, e_qv5, e_data1, e_data2, e_data3, e_okI, e_okB, e_i2, e_sub, e_mul, e_mod, e_div, e_pow, e_lt, e_le, e_gt, e_ge, e_neg, e_addI, e_addS, e_addT, e_addL1, e_addL2, e_addL3, e_addL4, e_addL5, e_addL6, e_addL7, e_addL8, e_addL9, e_eq, e_ne, e_in, e_notIn, e_inT, e_inT2, e_inL1, e_inL2, e_inL3, e_is, e_isNot, e_isN1, e_isN2, e_isN3, e_isN4, e_isN5, e_isN6, e_isN7, e_ixT, e_ixL, e_ixO, e_ixB, e_ixSc, e_lenT, e_lenL, e_lenO, e_lenB, e_lenSc, e_lenS, e_tupT, e_tupL, e_tupO, e_tupB, e_lisT, e_lisL, e_lisO, e_lisB, e_min2, e_max2, e_any, e_all, e_sum, e_sorted, e_rev, e_sl, e_oN, e_isi, e_lc, e_wipe0, e_wipe1, e_iA, e_iAb, e_gAq1, e_gAq2, e_gAq3, e_gAqb1, e_gAqb2, e_gAqb3, e_gAqb4, e_no, e_cCh, e_cChI, e_aug, e_decT, e_decF, e_cDispS, e_cDT, e_cDK, e_cDisp1, e_storeA, e_stR1, e_stR2, e_stR3, e_sd1, e_keyD1, e_keyD2, e_keyTD, e_intsD, e_intsD0, e_borT, e_borT2, e_borK, e_borK2, e_argT, e_argT2, e_argK, e_argK2, e_nbT, e_nbK, e_putT, e_putK, e_gAt1, e_gAt2, e_gAt3, e_gAt4, e_gGetDK, e_gGetDT, e_gIxD, e_gInD, e_gNotInD, e_cGet1, e_cGet2, e_dk1, e_dk2, e_dk3, e_dk4, e_dt1, e_dt2, e_del, atI_zero, e_at1, e_at2, e_at3, e_at4, e_at5, e_at6, e_at7, e_at8, e_at9, e_atm, e_V, e_retV, e_unp, e_app, e_store, e_fzE, oS, rsO_some, Rs.bind_ok, Rs.bind_no, Rs.out_ok, Out.then_nx, Out.then_rt, Out.then_ct, Out.then_bk, fin_rt, fin_nx, List.getElem?_cons_zero, List.getElem?_cons_succ, List.set_cons_succ, List.set_cons_zero, List.length_cons, List.length_nil, Nat.reduceAdd, Nat.reduceLT, Nat.reduceLeDiff, Nat.reduceEqDiff, if_true, if_false, Bool.false_eq_true, Bool.not_true, Bool.not_false, and_self, true_and, and_true, List.map_cons, List.map_nil, Option.map_some, sh_int, sh_bool, sh_none, sh_tup, sh_lst, eqv_int, reduceIte, Option.bind_some, Option.bind_none, kitB_ll, kitB_lt, kitB_tt, kitB_tl, kitB_ii, tyD_list, tyD_int, Bool.true_and, Bool.false_and, Bool.and_true, Bool.and_false, Bool.or_true, Bool.true_or, Bool.false_or, Bool.or_false, Bool.and_self, Bool.or_self, e_cAK, List.append_nil, List.nil_append, List.cons_append, e_andB, e_orB, e_andR, e_orR, tyD_tuple, eqv_bool, eqv_none, tyD_bool, tyD_str, tyD_none, kitB_bb, kitB_nb, kitB_bi, kitB_ib, kitB_nl, kitB_nt, beq_self_eq_true, isNone, hkt, g1, hln, hr, hin]
        | some x =>
          have hgo : decide (costM ws p < x) = true := hgo
          simp only [priceD] at hin ⊢
          simp only [e_nil, e_seq, e_fz, e_bk, e_ct, e_ret, e_retN, e_drop, e_set, e_if, e_for, e_cC, e_c2, e_c1, e_cA, e_aN, e_aC, e_cB, e_asB, e_bNot, e_bAnd, e_bOr, e_vAnd, e_vOr, e_vNot, e_vIf, e_bYes, e_iL, e_iT, e_iLb, e_iR, e_gL1, e_gL2, e_gL3, e_gT, e_gLb1, e_gLb2, e_gLb3, e_gLb4, e_nb1, e_nb2, e_bor1, e_bor2, e_bor3, e_bor4, e_arg1, e_arg2, e_arg3, e_arg4, e_putd, e_puto, e_toD1, e_toD2, e_allD0, e_allD1, e_allD2, e_gTupl, e_gList, e_tgnm, e_tgtp, e_tg0, e_tg1, e_sq1, e_sq2, e_sq3, e_sq4, e_sq5, e_qv2, e_qv3, e_qv4, e_qv5, e_data1, e_data2, e_data3, e_okI, e_okB, e_i2, e_sub, e_mul, e_mod, e_div, e_pow, e_lt, e_le, e_gt, e_ge, e_neg, e_addI, e_addS, e_addT, e_addL1, e_addL2, e_addL3, e_addL4, e_addL5, e_addL6, e_addL7, e_addL8, e_addL9, e_eq, e_ne, e_in, e_notIn, e_inT, e_inT2, e_inL1, e_inL2, e_inL3, e_is, e_isNot, e_isN1, e_isN2, e_isN3, e_isN4, e_isN5, e_isN6, e_isN7, e_ixT, e_ixL, e_ixO, e_ixB, e_ixSc, e_lenT, e_lenL, e_lenO, e_lenB, e_lenSc, e_lenS, e_tupT, e_tupL, e_tupO, e_tupB, e_lisT, e_lisL, e_lisO, e_lisB, e_min2, e_max2, e_any, e_all, e_sum, e_sorted, e_rev, e_sl, e_oN, e_isi, e_lc, e_wipe0, e_wipe1, e_iA, e_iAb, e_gAq1, e_gAq2, e_gAq3, e_gAqb1, e_gAqb2, e_gAqb3, e_gAqb4, e_no, e_cCh, e_cChI, e_aug, e_decT, e_decF, e_cDispS, e_cDT, e_cDK, e_cDisp1, e_storeA, e_stR1, e_stR2, e_stR3, e_sd1, e_keyD1, e_keyD2, e_keyTD, e_intsD, e_intsD0, e_borT, e_borT2, e_borK, e_borK2, e_argT, e_argT2, e_argK, e_argK2, e_nbT, e_nbK, e_putT, e_putK, e_gAt1, e_gAt2, e_gAt3, e_gAt4, e_gGetDK, e_gGetDT, e_gIxD, e_gInD, e_gNotInD, e_cGet1, e_cGet2, e_dk1, e_dk2, e_dk3, e_dk4, e_dt1, e_dt2, e_del, atI_zero, e_at1, e_at2, e_at3, e_at4, e_at5, e_at6, e_at7, e_at8, e_at9, e_atm, e_V, e_retV, e_unp, e_app, e_store, e_fzE, oS, rsO_some, Rs.bind_ok, Rs.bind_no, Rs.out_ok, Out.then_nx, Out.then_rt, Out.then_ct, Out.then_bk, fin_rt, fin_nx, List.getElem?_cons_zero, List.getElem?_cons_succ, List.set_cons_succ, List.set_cons_zero, List.length_cons, List.length_nil, Nat.reduceAdd, Nat.reduceLT, Nat.reduceLeDiff, Nat.reduceEqDiff, if_true, if_false, Bool.false_eq_true, Bool.not_true, Bool.not_false, and_self, true_and, and_true, List.map_cons, List.map_nil, Option.map_some, sh_int, sh_bool, sh_none, sh_tup, sh_lst, eqv_int, reduceIte, Option.bind_some, Option.bind_none, kitB_ll, kitB_lt, kitB_tt, kitB_tl, kitB_ii, tyD_list, tyD_int, Bool.true_and, Bool.false_and, Bool.and_true, Bool.and_false, Bool.or_true, Bool.true_or, Bool.false_or, Bool.or_false, Bool.and_self, Bool.or_self, e_cAK, List.append_nil, List.nil_append, List.cons_append, e_andB, e_orB, e_andR, e_orR, tyD_tuple, eqv_bool, eqv_none, tyD_bool, tyD_str, tyD_none, kitB_bb, kitB_nb, kitB_bi, kitB_ib, kitB_nl, kitB_nt, beq_self_eq_true, isNone, hkt, g1, hgo, hln, hr, hin]
      simp only [hb, lp_nx]
      exact ih
    · obtain ⟨e7', e8', e9', j7, j8, j9, ih, hS3⟩ := paper_out r T price hget a1 a3 a10 hu hw next ks S (some (.d (tupD c))) e8 e9 rfl q8 q9 hS fun x hx => hk x (List.mem_cons_of_mem _ hx)
      have hst : allS (fun c => lessO price (leastM ws T c)) (succM us r) (c :: ks) S = allS (fun c => lessO price (leastM ws T c)) (succM us r) ks S := by
        show List.foldl _ _ _ = _
        rw [List.foldl_cons, if_neg hgo]
        rfl
      rw [hst]
      refine ⟨e7', e8', e9', j7, j8, j9, ?_, hS3⟩
      have hb : L1__law_price_paper [some (.d (.tuple (encU us))), a1, some (.d (.int (r : Int))), a3, some (.bt kvs), some (.d (priceD price)), some (.ot (encB (valM ws T price) S)), some (.d (tupD c)), e8, e9, a10] = .nx [some (.d (.tuple (encU us))), a1, some (.d (.int (r : Int))), a3, some (.bt kvs), some (.d (priceD price)), some (.ot (encB (valM ws T price) S)), some (.d (tupD c)), e8, e9, a10] := by
        unfold L1__law_price_paper
        rw [hv] at hgo
        generalize tupD c = TC at *
        generalize encU us = EU at *
        generalize encB (valM ws T price) S = EB at *
        cases price with
        | none => exact absurd rfl hgo
        | some x =>
          have hgo : decide (costM ws p < x) = false := by
            have : ¬ decide (costM ws p < x) = true := hgo
            simpa using this
          simp only [e_nil, e_seq, e_fz, e_bk, e_ct, e_ret, e_retN, e_drop, e_set, e_if, e_for, e_cC, e_c2, e_c1, e_cA, e_aN, e_aC, e_cB, e_asB, e_bNot, e_bAnd, e_bOr, e_vAnd, e_vOr, e_vNot, e_vIf, e_bYes, e_iL, e_iT, e_iLb, e_iR, e_gL1, e_gL2, e_gL3, e_gT, e_gLb1, e_gLb2, e_gLb3, e_gLb4, e_nb1, e_nb2, e_bor1, e_bor2, e_bor3, e_bor4, e_arg1, e_arg2, e_arg3, e_arg4, e_putd, e_puto, e_toD1, e_toD2, e_allD0, e_allD1, e_allD2, e_gTupl, e_gList, e_tgnm, e_tgtp, e_tg0, e_tg1, e_sq1, e_sq2, e_sq3, e_sq4, e_sq5, e_qv2, e_qv3, e_qv4, e_qv5, e_data1, e_data2, e_data3, e_okI, e_okB, e_i2, e_sub, e_mul, e_mod, e_div, e_pow, e_lt, e_le, e_gt, e_ge, e_neg, e_addI, e_addS, e_addT, e_addL1, e_addL2, e_addL3, e_addL4, e_addL5, e_addL6, e_addL7, e_addL8, e_addL9, e_eq, e_ne, e_in, e_notIn, e_inT, e_inT2, e_inL1, e_inL2, e_inL3, e_is, e_isNot, e_isN1, e_isN2, e_isN3, e_isN4, e_isN5, e_isN6, e_isN7, e_ixT, e_ixL, e_ixO, e_ixB, e_ixSc, e_lenT, e_lenL, e_lenO, e_lenB, e_lenSc, e_lenS, e_tupT, e_tupL, e_tupO, e_tupB, e_lisT, e_lisL, e_lisO, e_lisB, e_min2, e_max2, e_any, e_all, e_sum, e_sorted, e_rev, e_sl, e_oN, e_isi, e_lc, e_wipe0, e_wipe1, e_iA, e_iAb, e_gAq1, e_gAq2, e_gAq3, e_gAqb1, e_gAqb2, e_gAqb3, e_gAqb4, e_no, e_cCh, e_cChI, e_aug, e_decT, e_decF, e_cDispS, e_cDT, e_cDK, e_cDisp1, e_storeA, e_stR1, e_stR2, e_stR3, e_sd1, e_keyD1, e_keyD2, e_keyTD, e_intsD, e_intsD0, e_borT, e_borT2, e_borK, e_borK2, e_argT, e_argT2, e_argK, e_argK2, e_nbT, e_nbK, e_putT, e_putK, e_gAt1, e_gAt2, e_gAt3, e_gAt4, e_gGetDK, e_gGetDT, e_gIxD, e_gInD, e_gNotInD, e_cGet1, e_cGet2, e_dk1, e_dk2, e_dk3, e_dk4, e_dt1, e_dt2, e_del, atI_zero, e_at1, e_at2, e_at3, e_at4, e_at5, e_at6, e_at7, e_at8, e_at9, e_atm, e_V, e_retV, e_unp, e_app, e_store, e_fzE, oS, rsO_some, Rs.bind_ok, Rs.bind_no, Rs.out_ok, Out.then_nx, Out.then_rt, Out.then_ct, Out.then_bk, fin_rt, fin_nx, List.getElem?_cons_zero, List.getElem?_cons_succ, List.set_cons_succ, List.set_cons_zero, List.length_cons, List.length_nil, Nat.reduceAdd, Nat.reduceLT, Nat.reduceLeDiff, Nat.reduceEqDiff, if_true, if_false, Bool.false_eq_true, Bool.not_true, Bool.not_false, and_self, true_and, and_true, List.map_cons, List.map_nil, Option.map_some, sh_int, sh_bool, sh_none, sh_tup, sh_lst, eqv_int, reduceIte, Option.bind_some, Option.bind_none, kitB_ll, kitB_lt, kitB_tt, kitB_tl, kitB_ii, tyD_list, tyD_int, Bool.true_and, Bool.false_and, Bool.and_true, Bool.and_false, Bool.or_true, Bool.true_or, Bool.false_or, Bool.or_false, Bool.and_self, Bool.or_self, e_cAK, List.append_nil, List.nil_append, List.cons_append, e_andB, e_orB, e_andR, e_orR, tyD_tuple, eqv_bool, eqv_none, tyD_bool, tyD_str, tyD_none, kitB_bb, kitB_nb, kitB_bi, kitB_ib, kitB_nl, kitB_nt, beq_self_eq_true, priceD, isNone, hkt, g1, hgo]
      simp only [hb, lp_nx]
      exact ih
/-- the paper's certificate -/
theorem paper_ok {us : List (List Int)} {ws : List Int} (ts : List Int) (r : Nat) (T : List (List Int × List Int)) {kvs : List (List Int × PyData)} (hget : ∀ c, dGet kvs c = ((tget T c).map (pc ws)).map encL) (hnd : (kvs.map (·.1)).Nodup) (hu : us.length ≤ 8) (hw : ∀ s, (usAt us s).length ≤ 1000000)
    (next : ∀ c, (tget T c).isSome = true → Cf us.length c ∧ c.length ≤ 800 ∧ ∀ x ∈ succM us r c, Cf us.length x.2 ∧ (tget T x.2).isSome = true) (h0 : leastM ws T [] = 0) (hpos : ∀ c, 0 ≤ leastM ws T c)
    (hcost : F__law_costs [.d (.tuple (encU us)), .d (.int (r : Int)), .d (.list (ws.map .int)), .d (.tuple [])] = .ok (.ot kvs)) :
    ∃ S, S = allS (fun c => lessO ((tget T ts).map (costM ws)) (leastM ws T c)) (succM us r) (kvs.map (·.1)) [[]] ∧ SOk us.length S ∧
    F__law_price_paper [.d (.tuple (encU us)), .d (tupD ts), .d (.int (r : Int)), .d (.list (ws.map .int))] = .ok (.d (certD r ((tget T ts).map (costM ws)) (valM ws T ((tget T ts).map (costM ws))) S)) := by
  refine ⟨_, rfl, ?_⟩
  have cf0 : Cf us.length [] := ⟨List.Pairwise.nil, fun x hx => (by cases hx)⟩
  have hS0 : SOk us.length [[]] := ⟨by simp, fun c hc => by rw [List.mem_singleton.mp hc]; exact cf0⟩
  obtain ⟨f7, f8, f9, q7, q8, q9, hwk, hS⟩ := paper_out r T ((tget T ts).map (costM ws)) hget (some (.d (tupD ts))) (some (.d (.list (ws.map .int)))) none hu hw next (kvs.map (·.1)) [[]] none none none rfl rfl rfl hS0 fun c hc => by
    have := (dGet_key kvs c).mp hc
    rw [hget] at this
    simpa using this
  refine ⟨hS, ?_⟩
  generalize allS (fun c => lessO ((tget T ts).map (costM ws)) (leastM ws T c)) (succM us r) (kvs.map (·.1)) [[]] = S at *
  have hv0 : valM ws T ((tget T ts).map (costM ws)) [] = 0 := by
    unfold valM minO
    rw [h0]
    cases e : tget T ts with
    | none => rfl
    | some p =>
      have := hpos ts
      unfold leastM at this
      rw [e] at this
      have : 0 ≤ costM ws p := this
      show min (costM ws p) 0 = 0
      omega
  have hb0 : encB (valM ws T ((tget T ts).map (costM ws))) [[]] = [([], .int 0)] := by unfold encB; rw [List.map_cons, hv0]; rfl
  rw [hb0] at hwk
  have hmap : kvs.map (fun e => PyData.tuple (e.1.map .int)) = (kvs.map (·.1)).map tupD := by
    rw [List.map_map]
    rfl
  have hfor : sForD (.nm 7) 4 L1__law_price_paper [some (.d (.tuple (encU us))), some (.d (tupD ts)), some (.d (.int (r : Int))), some (.d (.list (ws.map .int))), some (.ot kvs), some (.d (priceD ((tget T ts).map (costM ws)))), some (.ot [([], .int 0)]), none, none, none, none]
      = .nx [some (.d (.tuple (encU us))), some (.d (tupD ts)), some (.d (.int (r : Int))), some (.d (.list (ws.map .int))), none, some (.d (priceD ((tget T ts).map (costM ws)))), some (.ot (encB (valM ws T ((tget T ts).map (costM ws))) S)), f7, f8, f9, none] := by
    show finD 4 (loopF (.nm 7) L1__law_price_paper (kvs.map (fun e => PyData.tuple (e.1.map .int))) [some (.d (.tuple (encU us))), some (.d (tupD ts)), some (.d (.int (r : Int))), some (.d (.list (ws.map .int))), some (.bt kvs), some (.d (priceD ((tget T ts).map (costM ws)))), some (.ot [([], .int 0)]), none, none, none, none]) = _
    rw [hmap, hwk, finD_nx]
    · rfl
    · simp only [List.set_cons_succ, List.set_cons_zero, plnE_cons, plnE_nil, q7, q8, q9]
      rfl
  have hlc : lcF (.nm 10) bYes (cA gTupl (aC (cV 10) (aC (c2 gIxD (cV 6) (cV 10)) aN))) [some (.d (.tuple (encU us))), some (.d (tupD ts)), some (.d (.int (r : Int))), some (.d (.list (ws.map .int))), none, some (.d (priceD ((tget T ts).map (costM ws)))), some (.ot (encB (valM ws T ((tget T ts).map (costM ws))) S)), f7, f8, f9, none] ((isortT S).map tupD) = .ok ((isortT S).map fun c => .tuple [tupD c, .int (valM ws T ((tget T ts).map (costM ws)) c)]) := by
    refine (lcF_map tupD (fun _ => true) (fun c => .tuple [tupD c, .int (valM ws T ((tget T ts).map (costM ws)) c)]) (isortT S) fun c hc => ⟨[some (.d (.tuple (encU us))), some (.d (tupD ts)), some (.d (.int (r : Int))), some (.d (.list (ws.map .int))), none, some (.d (priceD ((tget T ts).map (costM ws)))), some (.ot (encB (valM ws T ((tget T ts).map (costM ws))) S)), f7, f8, f9, some (.d (tupD c))], rfl, rfl, fun _ => ⟨.d (.tuple [tupD c, .int (valM ws T ((tget T ts).map (costM ws)) c)]), ?_, rfl⟩⟩).trans ?_
    · have hk : keyTD (tupD c) = some c := intsD_map c
      have hg : dGet (encB (valM ws T ((tget T ts).map (costM ws))) S) c = some (.int (valM ws T ((tget T ts).map (costM ws)) c)) := by
        rw [dGet_B, if_pos ((isortT_perm S).mem_iff.mp hc)]
      generalize encB (valM ws T ((tget T ts).map (costM ws))) S = EB at *
      generalize tupD c = TC at *
      simp only [e_nil, e_seq, e_fz, e_bk, e_ct, e_ret, e_retN, e_drop, e_set, e_if, e_for, e_cC, e_c2, e_c1, e_cA, e_aN, e_aC, e_cB, e_asB, e_bNot, e_bAnd, e_bOr, e_vAnd, e_vOr, e_vNot, e_vIf, e_bYes, e_iL, e_iT, e_iLb, e_iR, e_gL1, e_gL2, e_gL3, e_gT, e_gLb1, e_gLb2, e_gLb3, e_gLb4, e_nb1, e_nb2, e_bor1, e_bor2, e_bor3, e_bor4, e_arg1, e_arg2, e_arg3, e_arg4, e_putd, e_puto, e_toD1, e_toD2, e_allD0, e_allD1, e_allD2, e_gTupl, e_gList, e_tgnm, e_tgtp, e_tg0, e_tg1, e_sq1, e_sq2, e_sq3, e_sq4, e_sq5, e_qv2, e_qv3, e_qv4, e_qv5, e_data1, e_data2, e_data3, e_okI, e_okB, e_i2, e_sub, e_mul, e_mod, e_div, e_pow, e_lt, e_le, e_gt, e_ge, e_neg, e_addI, e_addS, e_addT, e_addL1, e_addL2, e_addL3, e_addL4, e_addL5, e_addL6, e_addL7, e_addL8, e_addL9, e_eq, e_ne, e_in, e_notIn, e_inT, e_inT2, e_inL1, e_inL2, e_inL3, e_is, e_isNot, e_isN1, e_isN2, e_isN3, e_isN4, e_isN5, e_isN6, e_isN7, e_ixT, e_ixL, e_ixO, e_ixB, e_ixSc, e_lenT, e_lenL, e_lenO, e_lenB, e_lenSc, e_lenS, e_tupT, e_tupL, e_tupO, e_tupB, e_lisT, e_lisL, e_lisO, e_lisB, e_min2, e_max2, e_any, e_all, e_sum, e_sorted, e_rev, e_sl, e_oN, e_isi, e_lc, e_wipe0, e_wipe1, e_iA, e_iAb, e_gAq1, e_gAq2, e_gAq3, e_gAqb1, e_gAqb2, e_gAqb3, e_gAqb4, e_no, e_cCh, e_cChI, e_aug, e_decT, e_decF, e_cDispS, e_cDT, e_cDK, e_cDisp1, e_storeA, e_stR1, e_stR2, e_stR3, e_sd1, e_keyD1, e_keyD2, e_keyTD, e_intsD, e_intsD0, e_borT, e_borT2, e_borK, e_borK2, e_argT, e_argT2, e_argK, e_argK2, e_nbT, e_nbK, e_putT, e_putK, e_gAt1, e_gAt2, e_gAt3, e_gAt4, e_gGetDK, e_gGetDT, e_gIxD, e_gInD, e_gNotInD, e_cGet1, e_cGet2, e_dk1, e_dk2, e_dk3, e_dk4, e_dt1, e_dt2, e_del, atI_zero, e_at1, e_at2, e_at3, e_at4, e_at5, e_at6, e_at7, e_at8, e_at9, e_atm, e_V, e_retV, e_unp, e_app, e_store, e_fzE, oS, rsO_some, Rs.bind_ok, Rs.bind_no, Rs.out_ok, Out.then_nx, Out.then_rt, Out.then_ct, Out.then_bk, fin_rt, fin_nx, List.getElem?_cons_zero, List.getElem?_cons_succ, List.set_cons_succ, List.set_cons_zero, List.length_cons, List.length_nil, Nat.reduceAdd, Nat.reduceLT, Nat.reduceLeDiff, Nat.reduceEqDiff, if_true, if_false, Bool.false_eq_true, Bool.not_true, Bool.not_false, and_self, true_and, and_true, List.map_cons, List.map_nil, Option.map_some, sh_int, sh_bool, sh_none, sh_tup, sh_lst, eqv_int, reduceIte, Option.bind_some, Option.bind_none, kitB_ll, kitB_lt, kitB_tt, kitB_tl, kitB_ii, tyD_list, tyD_int, Bool.true_and, Bool.false_and, Bool.and_true, Bool.and_false, Bool.or_true, Bool.true_or, Bool.false_or, Bool.or_false, Bool.and_self, Bool.or_self, e_cAK, List.append_nil, List.nil_append, List.cons_append, e_andB, e_orB, e_andR, e_orR, tyD_tuple, eqv_bool, eqv_none, tyD_bool, tyD_str, tyD_none, kitB_bb, kitB_nb, kitB_bi, kitB_ib, kitB_nl, kitB_nt, beq_self_eq_true, hk, hg]
    · rw [List.filter_eq_self.mpr (fun _ _ => rfl)]
  have hk : keyTD (tupD ts) = some ts := intsD_map ts
  have hg := hget ts
  have hd0 : dPut ([] : List (List Int × PyData)) [] (.int 0) = [([], .int 0)] := rfl
  have hsk : gSortK [.bt (encB (valM ws T ((tget T ts).map (costM ws))) S)] = .ok (.ol ((isortT S).map tupD)) := by
    have hkb := keys_B (valM ws T ((tget T ts).map (costM ws))) S
    generalize encB (valM ws T ((tget T ts).map (costM ws))) S = EB at *
    rw [e_sortK]
    show Rs.ok (RV.ol ((isortT (EB.map (·.1))).map fun k => .tuple (k.map .int))) = _
    rw [hkb]
    rfl
  show (sSeq _ _ [some (.d (.tuple (encU us))), some (.d (tupD ts)), some (.d (.int (r : Int))), some (.d (.list (ws.map .int))), none, none, none, none, none, none, none]).fin = _
  unfold certD
  have hKS : ((isortT S).map tupD).length ≤ 1000000 := by
    have := hS.len hu
    rw [List.length_map, (isortT_perm S).length_eq]
    omega
  generalize (isortT S).map (fun c => PyData.tuple [tupD c, .int (valM ws T ((tget T ts).map (costM ws)) c)]) = OUT at *
  generalize (isortT S).map tupD = KS at *
  generalize valM ws T ((tget T ts).map (costM ws)) = VM at *
  generalize encB VM S = EB at *
  generalize encU us = EU at *
  generalize tupD ts = TT at *
  generalize ws.map PyData.int = WS at *
  cases hp : tget T ts with
  | none =>
    rw [hp] at hg hfor hlc
    have hg : dGet kvs ts = none := hg
    simp only [Option.map_none, priceD] at hfor hlc ⊢
    simp only [e_nil, e_seq, e_fz, e_bk, e_ct, e_ret, e_retN, e_drop, e_set, e_if, e_for, e_cC, e_c2, e_c1, e_cA, e_aN, e_aC, e_cB, e_asB, e_bNot, e_bAnd, e_bOr, e_vAnd, e_vOr, e_vNot, e_vIf, e_bYes, e_iL, e_iT, e_iLb, e_iR, e_gL1, e_gL2, e_gL3, e_gT, e_gLb1, e_gLb2, e_gLb3, e_gLb4, e_nb1, e_nb2, e_bor1, e_bor2, e_bor3, e_bor4, e_arg1, e_arg2, e_arg3, e_arg4, e_putd, e_puto, e_toD1, e_toD2, e_allD0, e_allD1, e_allD2, e_gTupl, e_gList, e_tgnm, e_tgtp, e_tg0, e_tg1, e_sq1, e_sq2, e_sq3, e_sq4, e_sq5, e_qv2, e_qv3, e_qv4, e_qv5, e_data1, e_data2, e_data3, e_okI, e_okB, e_i2, e_sub, e_mul, e_mod, e_div, e_pow, e_lt, e_le, e_gt, e_ge, e_neg, e_addI, e_addS, e_addT, e_addL1, e_addL2, e_addL3, e_addL4, e_addL5, e_addL6, e_addL7, e_addL8, e_addL9, e_eq, e_ne, e_in, e_notIn, e_inT, e_inT2, e_inL1, e_inL2, e_inL3, e_is, e_isNot, e_isN1, e_isN2, e_isN3, e_isN4, e_isN5, e_isN6, e_isN7, e_ixT, e_ixL, e_ixO, e_ixB, e_ixSc, e_lenT, e_lenL, e_lenO, e_lenB, e_lenSc, e_lenS, e_tupT, e_tupL, e_tupO, e_tupB, e_lisT, e_lisL, e_lisO, e_lisB, e_min2, e_max2, e_any, e_all, e_sum, e_sorted, e_rev, e_sl, e_oN, e_isi, e_lc, e_wipe0, e_wipe1, e_iA, e_iAb, e_gAq1, e_gAq2, e_gAq3, e_gAqb1, e_gAqb2, e_gAqb3, e_gAqb4, e_no, e_cCh, e_cChI, e_aug, e_decT, e_decF, e_cDispS, e_cDT, e_cDK, e_cDisp1, e_storeA, e_stR1, e_stR2, e_stR3, e_sd1, e_keyD1, e_keyD2, e_keyTD, e_intsD, e_intsD0, e_borT, e_borT2, e_borK, e_borK2, e_argT, e_argT2, e_argK, e_argK2, e_nbT, e_nbK, e_putT, e_putK, e_gAt1, e_gAt2, e_gAt3, e_gAt4, e_gGetDK, e_gGetDT, e_gIxD, e_gInD, e_gNotInD, e_cGet1, e_cGet2, e_dk1, e_dk2, e_dk3, e_dk4, e_dt1, e_dt2, e_del, atI_zero, e_at1, e_at2, e_at3, e_at4, e_at5, e_at6, e_at7, e_at8, e_at9, e_atm, e_V, e_retV, e_unp, e_app, e_store, e_fzE, oS, rsO_some, Rs.bind_ok, Rs.bind_no, Rs.out_ok, Out.then_nx, Out.then_rt, Out.then_ct, Out.then_bk, fin_rt, fin_nx, List.getElem?_cons_zero, List.getElem?_cons_succ, List.set_cons_succ, List.set_cons_zero, List.length_cons, List.length_nil, Nat.reduceAdd, Nat.reduceLT, Nat.reduceLeDiff, Nat.reduceEqDiff, if_true, if_false, Bool.false_eq_true, Bool.not_true, Bool.not_false, and_self, true_and, and_true, List.map_cons, List.map_nil, Option.map_some, sh_int, sh_bool, sh_none, sh_tup, sh_lst, eqv_int, reduceIte, Option.bind_some, Option.bind_none, kitB_ll, kitB_lt, kitB_tt, kitB_tl, kitB_ii, tyD_list, tyD_int, Bool.true_and, Bool.false_and, Bool.and_true, Bool.and_false, Bool.or_true, Bool.true_or, Bool.false_or, Bool.or_false, Bool.and_self, Bool.or_self, e_cAK, List.append_nil, List.nil_append, List.cons_append, e_andB, e_orB, e_andR, e_orR, tyD_tuple, eqv_bool, eqv_none, tyD_bool, tyD_str, tyD_none, kitB_bb, kitB_nb, kitB_bi, kitB_ib, kitB_nl, kitB_nt, beq_self_eq_true, hcost, hk, hg, Option.isSome_none, hfor, hsk, hd0, if_pos hKS, hlc]
  | some p =>
    rw [hp] at hg hfor hlc
    have hg : dGet kvs ts = some (.tuple [.int (costM ws p), .int (p.length : Int)]) := hg
    simp only [Option.map_some, priceD] at hfor hlc ⊢
    simp only [e_nil, e_seq, e_fz, e_bk, e_ct, e_ret, e_retN, e_drop, e_set, e_if, e_for, e_cC, e_c2, e_c1, e_cA, e_aN, e_aC, e_cB, e_asB, e_bNot, e_bAnd, e_bOr, e_vAnd, e_vOr, e_vNot, e_vIf, e_bYes, e_iL, e_iT, e_iLb, e_iR, e_gL1, e_gL2, e_gL3, e_gT, e_gLb1, e_gLb2, e_gLb3, e_gLb4, e_nb1, e_nb2, e_bor1, e_bor2, e_bor3, e_bor4, e_arg1, e_arg2, e_arg3, e_arg4, e_putd, e_puto, e_toD1, e_toD2, e_allD0, e_allD1, e_allD2, e_gTupl, e_gList, e_tgnm, e_tgtp, e_tg0, e_tg1, e_sq1, e_sq2, e_sq3, e_sq4, e_sq5, e_qv2, e_qv3, e_qv4, e_qv5, e_data1, e_data2, e_data3, e_okI, e_okB, e_i2, e_sub, e_mul, e_mod, e_div, e_pow, e_lt, e_le, e_gt, e_ge, e_neg, e_addI, e_addS, e_addT, e_addL1, e_addL2, e_addL3, e_addL4, e_addL5, e_addL6, e_addL7, e_addL8, e_addL9, e_eq, e_ne, e_in, e_notIn, e_inT, e_inT2, e_inL1, e_inL2, e_inL3, e_is, e_isNot, e_isN1, e_isN2, e_isN3, e_isN4, e_isN5, e_isN6, e_isN7, e_ixT, e_ixL, e_ixO, e_ixB, e_ixSc, e_lenT, e_lenL, e_lenO, e_lenB, e_lenSc, e_lenS, e_tupT, e_tupL, e_tupO, e_tupB, e_lisT, e_lisL, e_lisO, e_lisB, e_min2, e_max2, e_any, e_all, e_sum, e_sorted, e_rev, e_sl, e_oN, e_isi, e_lc, e_wipe0, e_wipe1, e_iA, e_iAb, e_gAq1, e_gAq2, e_gAq3, e_gAqb1, e_gAqb2, e_gAqb3, e_gAqb4, e_no, e_cCh, e_cChI, e_aug, e_decT, e_decF, e_cDispS, e_cDT, e_cDK, e_cDisp1, e_storeA, e_stR1, e_stR2, e_stR3, e_sd1, e_keyD1, e_keyD2, e_keyTD, e_intsD, e_intsD0, e_borT, e_borT2, e_borK, e_borK2, e_argT, e_argT2, e_argK, e_argK2, e_nbT, e_nbK, e_putT, e_putK, e_gAt1, e_gAt2, e_gAt3, e_gAt4, e_gGetDK, e_gGetDT, e_gIxD, e_gInD, e_gNotInD, e_cGet1, e_cGet2, e_dk1, e_dk2, e_dk3, e_dk4, e_dt1, e_dt2, e_del, atI_zero, e_at1, e_at2, e_at3, e_at4, e_at5, e_at6, e_at7, e_at8, e_at9, e_atm, e_V, e_retV, e_unp, e_app, e_store, e_fzE, oS, rsO_some, Rs.bind_ok, Rs.bind_no, Rs.out_ok, Out.then_nx, Out.then_rt, Out.then_ct, Out.then_bk, fin_rt, fin_nx, List.getElem?_cons_zero, List.getElem?_cons_succ, List.set_cons_succ, List.set_cons_zero, List.length_cons, List.length_nil, Nat.reduceAdd, Nat.reduceLT, Nat.reduceLeDiff, Nat.reduceEqDiff, if_true, if_false, Bool.false_eq_true, Bool.not_true, Bool.not_false, and_self, true_and, and_true, List.map_cons, List.map_nil, Option.map_some, sh_int, sh_bool, sh_none, sh_tup, sh_lst, eqv_int, reduceIte, Option.bind_some, Option.bind_none, kitB_ll, kitB_lt, kitB_tt, kitB_tl, kitB_ii, tyD_list, tyD_int, Bool.true_and, Bool.false_and, Bool.and_true, Bool.and_false, Bool.or_true, Bool.true_or, Bool.false_or, Bool.or_false, Bool.and_self, Bool.or_self, e_cAK, List.append_nil, List.nil_append, List.cons_append, e_andB, e_orB, e_andR, e_orR, tyD_tuple, eqv_bool, eqv_none, tyD_bool, tyD_str, tyD_none, kitB_bb, kitB_nb, kitB_bi, kitB_ib, kitB_nl, kitB_nt, beq_self_eq_true, hcost, hk, hg, Option.isSome_some, hfor, hsk, hd0, if_pos hKS, hlc]
theorem wf_use {most : Nat} {us : List (List Int)} {ts : List Int} (wf : WF most us ts) (hm : most ≤ 8) (s : Int) : (usAt us s).length ≤ 1000000 := by
  unfold usAt
  by_cases h : s.toNat < us.length
  · have := (wf.use s.toNat us[s.toNat] (List.getElem?_eq_getElem h)).len
    have := wf.len
    simp [h]
    omega
  · simp [h]
def K22_1 : VEnv → Out := (sSet 2 (cA (fun rs => if rs.length = 3 then F__law_task (rs.map RV.arg) else .no) (aC (cV 0) (aC (c2 gMul (cC (.int 10)) (cV 1)) (aC (cC (.int 6)) aN)))))
def K22_2 : VEnv → Out := (sFz 2 (sUnp (.tp [3, 4]) (cV 2)))
def K22_3 : VEnv → Out := (sSet 5 (c2 gAdd (cC (.int 1)) (c2 gIx (cA (fun rs => if rs.length = 3 then F__law_draw (rs.map RV.arg) else .no) (aC (cV 0) (aC (c2 gAdd (c2 gMul (cC (.int 10)) (cV 1)) (cC (.int 7))) (aC (cA gList (aC (cC (.int 7)) aN)) aN)))) (cC (.int 0)))))
def K22_4 : VEnv → Out := (sSet 6 (cA (fun rs => if rs.length = 3 then F__law_prices (rs.map RV.arg) else .no) (aC (cV 0) (aC (c2 gAdd (c2 gMul (cC (.int 10)) (cV 1)) (cC (.int 8))) (aC (cA gLen (aC (cV 3) aN)) aN)))))
def K22_5 : VEnv → Out := (sFz 6 (sFz 5 (sFz 2 (sSet 7 (cA (fun rs => if rs.length = 3 then F_price_certificate (rs.map RV.arg) else .no) (aC (cV 2) (aC (cV 5) (aC (cV 6) aN))))))))
def K22_6 : VEnv → Out := (sFz 6 (sFz 5 (sIf (bOr (cB (c2 gNe (cV 7) (cA (fun rs => if rs.length = 4 then F__law_price_paper (rs.map RV.arg) else .no) (aC (cV 3) (aC (cV 4) (aC (cV 5) (aC (cV 6) aN))))))) (bOr (bNot (cB (c1 (gIsi "tuple") (cV 7)))) (bNot (cB (c1 (gIsi "tuple") (c2 gIx (cV 7) (cC (.int 2)))))))) (sRet (cC (.bool false))) sNil)))
def K22 : VEnv → Out := (sSeq K22_1 (sSeq K22_2 (sSeq K22_3 (sSeq K22_4 (sSeq K22_5 K22_6)))))
theorem L0_law_split : L0_law = K22 := rfl
theorem law_holds (ns : List Int) (h : ns.length ≤ 63) : F_law [.sc ns] = .ok (.d (.bool true)) := by
  obtain ⟨tm, hm, hr⟩ := turns ns h 4 10 (by omega) (by omega) (by omega) (by omega) [some (.sc ns), none, none, none, none, none, none, none] rfl
  obtain ⟨env', e1, j1, j2, j3, j4, j5, j6, j7, rfl⟩ := loopF_ex (tg := .nm 1) (f := L0_law) (fun i env => ∃ j1 j2 j3 j4 j5 j6 j7, env = [some (.sc ns), j1, j2, j3, j4, j5, j6, j7]) natI (List.range tm) [some (.sc ns), none, none, none, none, none, none, none] (by
    rintro i env w hx ⟨j1, j2, j3, j4, j5, j6, j7, rfl⟩
    refine ⟨[some (.sc ns), some (.d (.int (w : Int))), j2, j3, j4, j5, j6, j7], rfl, ?_⟩
    have mulOk : (10 : Int).natAbs < 18446744073709551616 ∨ ((w : Int)).natAbs < 18446744073709551616 := .inl (by decide)
    obtain ⟨d1, p1, b1⟩ := draw1 ns (10 * w + 7) 7 (by omega)
    obtain ⟨us, ts, p2, wf⟩ := task_ok ns (10 * w) 6 (by omega) (by omega)
    have hu : us.length ≤ 6 := wf.len
    have hw := wf_use wf (by omega)
    obtain ⟨ws, p3, pw⟩ := prices_ok ns (10 * w + 8) us.length (by omega)
    have hul : ∀ u ∈ us, u.length ≤ 1000 := fun u hu' => by
      obtain ⟨k, hk, rfl⟩ := List.getElem_of_mem hu'
      have := (wf.use k _ (List.getElem?_eq_getElem hk)).len
      omega
    obtain ⟨kvs, lab, p4, rep, hlab, _⟩ := costs_ok (1 + d1) pw hu hul (cf_nil _) (by simp) (by omega)
    obtain ⟨T, ht, hTl, next, h0, hpos, S, hSd, hS, p5⟩ := cert_ok ts (1 + d1) pw (by omega) (by omega)
    have hl := hlab (by simp) T ht
    have hget : ∀ c, dGet kvs c = ((tget T c).map (pc ws)).map encL := fun c => by rw [rep.get, hl c]
    obtain ⟨S', hSd', hS', p6⟩ := paper_ok ts (1 + d1) T hget rep.nd (by omega) hw next h0 hpos p4
    have hsame : ∀ c, c ∈ S ↔ c ∈ S' := fun c => by
      have hks : ∀ c, c ∈ T.map (·.1) ↔ c ∈ kvs.map (·.1) := fun c => by
        rw [dGet_key, hget]
        constructor
        · intro hc
          obtain ⟨e, he, rfl⟩ := List.mem_map.mp hc
          rw [tget_of ht.nodup (show (e.1, e.2) ∈ T from he)]
          rfl
        · intro hc
          obtain ⟨p, hp⟩ := Option.isSome_iff_exists.mp (show (tget T c).isSome = true by simpa using hc)
          exact List.mem_map.mpr ⟨_, tget_mem hp, rfl⟩
      rw [hSd, hSd', mem_allS, mem_allS]
      constructor
      · rintro (h | ⟨d, hd, h⟩)
        · exact .inl h
        · exact .inr ⟨d, (hks d).mp hd, h⟩
      · rintro (h | ⟨d, hd, h⟩)
        · exact .inl h
        · exact .inr ⟨d, (hks d).mpr hd, h⟩
    rw [← cert_same hS.nd hS'.nd hsame] at p6
    have nice := nice_cert (1 + d1) ((tget T ts).map (costM ws)) (valM ws T ((tget T ts).map (costM ws))) S
    have esh := nice.shaped (by decide)
    have erf := nice.refl
    obtain ⟨OUT, hOUT⟩ : ∃ OUT : List PyData, certD (1 + d1) ((tget T ts).map (costM ws)) (valM ws T ((tget T ts).map (costM ws))) S = .tuple [.int ((1 + d1 : Nat) : Int), priceD ((tget T ts).map (costM ws)), .tuple OUT] := ⟨_, rfl⟩
    rw [hOUT] at p5 p6 esh erf
    have k0 : 10 * (w : Int) = ((10 * w : Nat) : Int) := by omega
    have k8 : ((10 * w : Nat) : Int) + 8 = ((10 * w + 8 : Nat) : Int) := by omega
    have k7 : ((10 * w : Nat) : Int) + 7 = ((10 * w + 7 : Nat) : Int) := by omega
    have p1 : F__law_draw [.sc ns, .d (.int ((10 * w + 7 : Nat) : Int)), .d (.list [.int 7])] = .ok (.ol [.int d1]) := p1
    have p2 : F__law_task [.sc ns, .d (.int ((10 * w : Nat) : Int)), .d (.int 6)] = .ok (.d (encT us ts)) := p2
    have k1 : 1 + (d1 : Int) = ((1 + d1 : Nat) : Int) := by omega
    have ule := encU_len us
    rw [L0_law_split]
    have st1 : ∀ j2 j3 j4 j5 j6 j7, K22_1 [some (.sc ns), some (.d (.int (w : Int))), j2, j3, j4, j5, j6, j7] = .nx [some (.sc ns), some (.d (.int (w : Int))), some (.d (encT us ts)), j3, j4, j5, j6, j7] := by
      intro j2 j3 j4 j5 j6 j7
      unfold K22_1
      generalize encT us ts = ET at *
      simp only [e_nil, e_seq, e_fz, e_bk, e_ct, e_ret, e_retN, e_drop, e_set, e_if, e_for, e_cC, e_c2, e_c1, e_cA, e_aN, e_aC, e_cB, e_asB, e_bNot, e_bAnd, e_bOr, e_vAnd, e_vOr, e_vNot, e_vIf, e_bYes, e_iL, e_iT, e_iLb, e_iR, e_gL1, e_gL2, e_gL3, e_gT, e_gLb1, e_gLb2, e_gLb3, e_gLb4, e_nb1, e_nb2, e_bor1, e_bor2, e_bor3, e_bor4, e_arg1, e_arg2, e_arg3, e_arg4, e_putd, e_puto, e_toD1, e_toD2, e_allD0, e_allD1, e_allD2, e_gTupl, e_gList, e_tgnm, e_tgtp, e_tg0, e_tg1, e_sq1, e_sq2, e_sq3, e_sq4, e_sq5, e_qv2, e_qv3, e_qv4, e_qv5, e_data1, e_data2, e_data3, e_okI, e_okB, e_i2, e_sub, e_mul, e_mod, e_div, e_pow, e_lt, e_le, e_gt, e_ge, e_neg, e_addI, e_addS, e_addT, e_addL1, e_addL2, e_addL3, e_addL4, e_addL5, e_addL6, e_addL7, e_addL8, e_addL9, e_eq, e_ne, e_in, e_notIn, e_inT, e_inT2, e_inL1, e_inL2, e_inL3, e_is, e_isNot, e_isN1, e_isN2, e_isN3, e_isN4, e_isN5, e_isN6, e_isN7, e_ixT, e_ixL, e_ixO, e_ixB, e_ixSc, e_lenT, e_lenL, e_lenO, e_lenB, e_lenSc, e_lenS, e_tupT, e_tupL, e_tupO, e_tupB, e_lisT, e_lisL, e_lisO, e_lisB, e_min2, e_max2, e_any, e_all, e_sum, e_sorted, e_rev, e_sl, e_oN, e_isi, e_lc, e_wipe0, e_wipe1, e_iA, e_iAb, e_gAq1, e_gAq2, e_gAq3, e_gAqb1, e_gAqb2, e_gAqb3, e_gAqb4, e_no, e_cCh, e_cChI, e_aug, e_decT, e_decF, e_cDispS, e_cDT, e_cDK, e_cDisp1, e_storeA, e_stR1, e_stR2, e_stR3, e_sd1, e_keyD1, e_keyD2, e_keyTD, e_intsD, e_intsD0, e_borT, e_borT2, e_borK, e_borK2, e_argT, e_argT2, e_argK, e_argK2, e_nbT, e_nbK, e_putT, e_putK, e_gAt1, e_gAt2, e_gAt3, e_gAt4, e_gGetDK, e_gGetDT, e_gIxD, e_gInD, e_gNotInD, e_cGet1, e_cGet2, e_dk1, e_dk2, e_dk3, e_dk4, e_dt1, e_dt2, e_del, atI_zero, e_at1, e_at2, e_at3, e_at4, e_at5, e_at6, e_at7, e_at8, e_at9, e_atm, e_V, e_retV, e_unp, e_app, e_store, e_fzE, oS, rsO_some, Rs.bind_ok, Rs.bind_no, Rs.out_ok, Out.then_nx, Out.then_rt, Out.then_ct, Out.then_bk, fin_rt, fin_nx, List.getElem?_cons_zero, List.getElem?_cons_succ, List.set_cons_succ, List.set_cons_zero, List.length_cons, List.length_nil, Nat.reduceAdd, Nat.reduceLT, Nat.reduceLeDiff, Nat.reduceEqDiff, if_true, if_false, Bool.false_eq_true, Bool.not_true, Bool.not_false, and_self, true_and, and_true, List.map_cons, List.map_nil, Option.map_some, sh_int, sh_bool, sh_none, sh_tup, sh_lst, eqv_int, reduceIte, Option.bind_some, Option.bind_none, kitB_ll, kitB_lt, kitB_tt, kitB_tl, kitB_ii, tyD_list, tyD_int, Bool.true_and, Bool.false_and, Bool.and_true, Bool.and_false, Bool.or_true, Bool.true_or, Bool.false_or, Bool.or_false, Bool.and_self, Bool.or_self, e_cAK, List.append_nil, List.nil_append, List.cons_append, e_andB, e_orB, e_andR, e_orR, tyD_tuple, eqv_bool, eqv_none, tyD_bool, tyD_str, tyD_none, kitB_bb, kitB_nb, kitB_bi, kitB_ib, kitB_nl, kitB_nt, beq_self_eq_true, if_pos mulOk, k0, p2]
    have st2 : ∀ j3 j4 j5 j6 j7, K22_2 [some (.sc ns), some (.d (.int (w : Int))), some (.d (encT us ts)), j3, j4, j5, j6, j7] = .nx [some (.sc ns), some (.d (.int (w : Int))), some (.d (encT us ts)), some (.d (.tuple (encU us))), some (.d (tupD ts)), j5, j6, j7] := by
      intro j3 j4 j5 j6 j7
      unfold K22_2
      simp only [e_nil, e_seq, e_fz, e_bk, e_ct, e_ret, e_retN, e_drop, e_set, e_if, e_for, e_cC, e_c2, e_c1, e_cA, e_aN, e_aC, e_cB, e_asB, e_bNot, e_bAnd, e_bOr, e_vAnd, e_vOr, e_vNot, e_vIf, e_bYes, e_iL, e_iT, e_iLb, e_iR, e_gL1, e_gL2, e_gL3, e_gT, e_gLb1, e_gLb2, e_gLb3, e_gLb4, e_nb1, e_nb2, e_bor1, e_bor2, e_bor3, e_bor4, e_arg1, e_arg2, e_arg3, e_arg4, e_putd, e_puto, e_toD1, e_toD2, e_allD0, e_allD1, e_allD2, e_gTupl, e_gList, e_tgnm, e_tgtp, e_tg0, e_tg1, e_sq1, e_sq2, e_sq3, e_sq4, e_sq5, e_qv2, e_qv3, e_qv4, e_qv5, e_data1, e_data2, e_data3, e_okI, e_okB, e_i2, e_sub, e_mul, e_mod, e_div, e_pow, e_lt, e_le, e_gt, e_ge, e_neg, e_addI, e_addS, e_addT, e_addL1, e_addL2, e_addL3, e_addL4, e_addL5, e_addL6, e_addL7, e_addL8, e_addL9, e_eq, e_ne, e_in, e_notIn, e_inT, e_inT2, e_inL1, e_inL2, e_inL3, e_is, e_isNot, e_isN1, e_isN2, e_isN3, e_isN4, e_isN5, e_isN6, e_isN7, e_ixT, e_ixL, e_ixO, e_ixB, e_ixSc, e_lenT, e_lenL, e_lenO, e_lenB, e_lenSc, e_lenS, e_tupT, e_tupL, e_tupO, e_tupB, e_lisT, e_lisL, e_lisO, e_lisB, e_min2, e_max2, e_any, e_all, e_sum, e_sorted, e_rev, e_sl, e_oN, e_isi, e_lc, e_wipe0, e_wipe1, e_iA, e_iAb, e_gAq1, e_gAq2, e_gAq3, e_gAqb1, e_gAqb2, e_gAqb3, e_gAqb4, e_no, e_cCh, e_cChI, e_aug, e_decT, e_decF, e_cDispS, e_cDT, e_cDK, e_cDisp1, e_storeA, e_stR1, e_stR2, e_stR3, e_sd1, e_keyD1, e_keyD2, e_keyTD, e_intsD, e_intsD0, e_borT, e_borT2, e_borK, e_borK2, e_argT, e_argT2, e_argK, e_argK2, e_nbT, e_nbK, e_putT, e_putK, e_gAt1, e_gAt2, e_gAt3, e_gAt4, e_gGetDK, e_gGetDT, e_gIxD, e_gInD, e_gNotInD, e_cGet1, e_cGet2, e_dk1, e_dk2, e_dk3, e_dk4, e_dt1, e_dt2, e_del, atI_zero, e_at1, e_at2, e_at3, e_at4, e_at5, e_at6, e_at7, e_at8, e_at9, e_atm, e_V, e_retV, e_unp, e_app, e_store, e_fzE, oS, rsO_some, Rs.bind_ok, Rs.bind_no, Rs.out_ok, Out.then_nx, Out.then_rt, Out.then_ct, Out.then_bk, fin_rt, fin_nx, List.getElem?_cons_zero, List.getElem?_cons_succ, List.set_cons_succ, List.set_cons_zero, List.length_cons, List.length_nil, Nat.reduceAdd, Nat.reduceLT, Nat.reduceLeDiff, Nat.reduceEqDiff, if_true, if_false, Bool.false_eq_true, Bool.not_true, Bool.not_false, and_self, true_and, and_true, List.map_cons, List.map_nil, Option.map_some, sh_int, sh_bool, sh_none, sh_tup, sh_lst, eqv_int, reduceIte, Option.bind_some, Option.bind_none, kitB_ll, kitB_lt, kitB_tt, kitB_tl, kitB_ii, tyD_list, tyD_int, Bool.true_and, Bool.false_and, Bool.and_true, Bool.and_false, Bool.or_true, Bool.true_or, Bool.false_or, Bool.or_false, Bool.and_self, Bool.or_self, e_cAK, List.append_nil, List.nil_append, List.cons_append, e_andB, e_orB, e_andR, e_orR, tyD_tuple, eqv_bool, eqv_none, tyD_bool, tyD_str, tyD_none, kitB_bb, kitB_nb, kitB_bi, kitB_ib, kitB_nl, kitB_nt, beq_self_eq_true, tg_encT]
    have st3 : ∀ j5 j6 j7, K22_3 [some (.sc ns), some (.d (.int (w : Int))), some (.d (encT us ts)), some (.d (.tuple (encU us))), some (.d (tupD ts)), j5, j6, j7] = .nx [some (.sc ns), some (.d (.int (w : Int))), some (.d (encT us ts)), some (.d (.tuple (encU us))), some (.d (tupD ts)), some (.d (.int ((1 + d1 : Nat) : Int))), j6, j7] := by
      intro j5 j6 j7
      unfold K22_3
      simp only [e_nil, e_seq, e_fz, e_bk, e_ct, e_ret, e_retN, e_drop, e_set, e_if, e_for, e_cC, e_c2, e_c1, e_cA, e_aN, e_aC, e_cB, e_asB, e_bNot, e_bAnd, e_bOr, e_vAnd, e_vOr, e_vNot, e_vIf, e_bYes, e_iL, e_iT, e_iLb, e_iR, e_gL1, e_gL2, e_gL3, e_gT, e_gLb1, e_gLb2, e_gLb3, e_gLb4, e_nb1, e_nb2, e_bor1, e_bor2, e_bor3, e_bor4, e_arg1, e_arg2, e_arg3, e_arg4, e_putd, e_puto, e_toD1, e_toD2, e_allD0, e_allD1, e_allD2, e_gTupl, e_gList, e_tgnm, e_tgtp, e_tg0, e_tg1, e_sq1, e_sq2, e_sq3, e_sq4, e_sq5, e_qv2, e_qv3, e_qv4, e_qv5, e_data1, e_data2, e_data3, e_okI, e_okB, e_i2, e_sub, e_mul, e_mod, e_div, e_pow, e_lt, e_le, e_gt, e_ge, e_neg, e_addI, e_addS, e_addT, e_addL1, e_addL2, e_addL3, e_addL4, e_addL5, e_addL6, e_addL7, e_addL8, e_addL9, e_eq, e_ne, e_in, e_notIn, e_inT, e_inT2, e_inL1, e_inL2, e_inL3, e_is, e_isNot, e_isN1, e_isN2, e_isN3, e_isN4, e_isN5, e_isN6, e_isN7, e_ixT, e_ixL, e_ixO, e_ixB, e_ixSc, e_lenT, e_lenL, e_lenO, e_lenB, e_lenSc, e_lenS, e_tupT, e_tupL, e_tupO, e_tupB, e_lisT, e_lisL, e_lisO, e_lisB, e_min2, e_max2, e_any, e_all, e_sum, e_sorted, e_rev, e_sl, e_oN, e_isi, e_lc, e_wipe0, e_wipe1, e_iA, e_iAb, e_gAq1, e_gAq2, e_gAq3, e_gAqb1, e_gAqb2, e_gAqb3, e_gAqb4, e_no, e_cCh, e_cChI, e_aug, e_decT, e_decF, e_cDispS, e_cDT, e_cDK, e_cDisp1, e_storeA, e_stR1, e_stR2, e_stR3, e_sd1, e_keyD1, e_keyD2, e_keyTD, e_intsD, e_intsD0, e_borT, e_borT2, e_borK, e_borK2, e_argT, e_argT2, e_argK, e_argK2, e_nbT, e_nbK, e_putT, e_putK, e_gAt1, e_gAt2, e_gAt3, e_gAt4, e_gGetDK, e_gGetDT, e_gIxD, e_gInD, e_gNotInD, e_cGet1, e_cGet2, e_dk1, e_dk2, e_dk3, e_dk4, e_dt1, e_dt2, e_del, atI_zero, e_at1, e_at2, e_at3, e_at4, e_at5, e_at6, e_at7, e_at8, e_at9, e_atm, e_V, e_retV, e_unp, e_app, e_store, e_fzE, oS, rsO_some, Rs.bind_ok, Rs.bind_no, Rs.out_ok, Out.then_nx, Out.then_rt, Out.then_ct, Out.then_bk, fin_rt, fin_nx, List.getElem?_cons_zero, List.getElem?_cons_succ, List.set_cons_succ, List.set_cons_zero, List.length_cons, List.length_nil, Nat.reduceAdd, Nat.reduceLT, Nat.reduceLeDiff, Nat.reduceEqDiff, if_true, if_false, Bool.false_eq_true, Bool.not_true, Bool.not_false, and_self, true_and, and_true, List.map_cons, List.map_nil, Option.map_some, sh_int, sh_bool, sh_none, sh_tup, sh_lst, eqv_int, reduceIte, Option.bind_some, Option.bind_none, kitB_ll, kitB_lt, kitB_tt, kitB_tl, kitB_ii, tyD_list, tyD_int, Bool.true_and, Bool.false_and, Bool.and_true, Bool.and_false, Bool.or_true, Bool.true_or, Bool.false_or, Bool.or_false, Bool.and_self, Bool.or_self, e_cAK, List.append_nil, List.nil_append, List.cons_append, e_andB, e_orB, e_andR, e_orR, tyD_tuple, eqv_bool, eqv_none, tyD_bool, tyD_str, tyD_none, kitB_bb, kitB_nb, kitB_bi, kitB_ib, kitB_nl, kitB_nt, beq_self_eq_true, if_pos mulOk, k0, k7, p1, k1]
    have st4 : ∀ j6 j7, K22_4 [some (.sc ns), some (.d (.int (w : Int))), some (.d (encT us ts)), some (.d (.tuple (encU us))), some (.d (tupD ts)), some (.d (.int ((1 + d1 : Nat) : Int))), j6, j7] = .nx [some (.sc ns), some (.d (.int (w : Int))), some (.d (encT us ts)), some (.d (.tuple (encU us))), some (.d (tupD ts)), some (.d (.int ((1 + d1 : Nat) : Int))), some (.ol (ws.map .int)), j7] := by
      intro j6 j7
      unfold K22_4
      generalize encU us = EU at *
      generalize ws.map PyData.int = WS at *
      simp only [e_nil, e_seq, e_fz, e_bk, e_ct, e_ret, e_retN, e_drop, e_set, e_if, e_for, e_cC, e_c2, e_c1, e_cA, e_aN, e_aC, e_cB, e_asB, e_bNot, e_bAnd, e_bOr, e_vAnd, e_vOr, e_vNot, e_vIf, e_bYes, e_iL, e_iT, e_iLb, e_iR, e_gL1, e_gL2, e_gL3, e_gT, e_gLb1, e_gLb2, e_gLb3, e_gLb4, e_nb1, e_nb2, e_bor1, e_bor2, e_bor3, e_bor4, e_arg1, e_arg2, e_arg3, e_arg4, e_putd, e_puto, e_toD1, e_toD2, e_allD0, e_allD1, e_allD2, e_gTupl, e_gList, e_tgnm, e_tgtp, e_tg0, e_tg1, e_sq1, e_sq2, e_sq3, e_sq4, e_sq5, e_qv2, e_qv3, e_qv4, e_qv5, e_data1, e_data2, e_data3, e_okI, e_okB, e_i2, e_sub, e_mul, e_mod, e_div, e_pow, e_lt, e_le, e_gt, e_ge, e_neg, e_addI, e_addS, e_addT, e_addL1, e_addL2, e_addL3, e_addL4, e_addL5, e_addL6, e_addL7, e_addL8, e_addL9, e_eq, e_ne, e_in, e_notIn, e_inT, e_inT2, e_inL1, e_inL2, e_inL3, e_is, e_isNot, e_isN1, e_isN2, e_isN3, e_isN4, e_isN5, e_isN6, e_isN7, e_ixT, e_ixL, e_ixO, e_ixB, e_ixSc, e_lenT, e_lenL, e_lenO, e_lenB, e_lenSc, e_lenS, e_tupT, e_tupL, e_tupO, e_tupB, e_lisT, e_lisL, e_lisO, e_lisB, e_min2, e_max2, e_any, e_all, e_sum, e_sorted, e_rev, e_sl, e_oN, e_isi, e_lc, e_wipe0, e_wipe1, e_iA, e_iAb, e_gAq1, e_gAq2, e_gAq3, e_gAqb1, e_gAqb2, e_gAqb3, e_gAqb4, e_no, e_cCh, e_cChI, e_aug, e_decT, e_decF, e_cDispS, e_cDT, e_cDK, e_cDisp1, e_storeA, e_stR1, e_stR2, e_stR3, e_sd1, e_keyD1, e_keyD2, e_keyTD, e_intsD, e_intsD0, e_borT, e_borT2, e_borK, e_borK2, e_argT, e_argT2, e_argK, e_argK2, e_nbT, e_nbK, e_putT, e_putK, e_gAt1, e_gAt2, e_gAt3, e_gAt4, e_gGetDK, e_gGetDT, e_gIxD, e_gInD, e_gNotInD, e_cGet1, e_cGet2, e_dk1, e_dk2, e_dk3, e_dk4, e_dt1, e_dt2, e_del, atI_zero, e_at1, e_at2, e_at3, e_at4, e_at5, e_at6, e_at7, e_at8, e_at9, e_atm, e_V, e_retV, e_unp, e_app, e_store, e_fzE, oS, rsO_some, Rs.bind_ok, Rs.bind_no, Rs.out_ok, Out.then_nx, Out.then_rt, Out.then_ct, Out.then_bk, fin_rt, fin_nx, List.getElem?_cons_zero, List.getElem?_cons_succ, List.set_cons_succ, List.set_cons_zero, List.length_cons, List.length_nil, Nat.reduceAdd, Nat.reduceLT, Nat.reduceLeDiff, Nat.reduceEqDiff, if_true, if_false, Bool.false_eq_true, Bool.not_true, Bool.not_false, and_self, true_and, and_true, List.map_cons, List.map_nil, Option.map_some, sh_int, sh_bool, sh_none, sh_tup, sh_lst, eqv_int, reduceIte, Option.bind_some, Option.bind_none, kitB_ll, kitB_lt, kitB_tt, kitB_tl, kitB_ii, tyD_list, tyD_int, Bool.true_and, Bool.false_and, Bool.and_true, Bool.and_false, Bool.or_true, Bool.true_or, Bool.false_or, Bool.or_false, Bool.and_self, Bool.or_self, e_cAK, List.append_nil, List.nil_append, List.cons_append, e_andB, e_orB, e_andR, e_orR, tyD_tuple, eqv_bool, eqv_none, tyD_bool, tyD_str, tyD_none, kitB_bb, kitB_nb, kitB_bi, kitB_ib, kitB_nl, kitB_nt, beq_self_eq_true, if_pos mulOk, k0, k8, ule, p3]
    have st5 : ∀ j7, K22_5 [some (.sc ns), some (.d (.int (w : Int))), some (.d (encT us ts)), some (.d (.tuple (encU us))), some (.d (tupD ts)), some (.d (.int ((1 + d1 : Nat) : Int))), some (.ol (ws.map .int)), j7] = .nx [some (.sc ns), some (.d (.int (w : Int))), some (.d (encT us ts)), some (.d (.tuple (encU us))), some (.d (tupD ts)), some (.d (.int ((1 + d1 : Nat) : Int))), some (.d (.list (ws.map .int))), some (.d (.tuple [.int ((1 + d1 : Nat) : Int), priceD ((tget T ts).map (costM ws)), .tuple OUT]))] := by
      intro j7
      unfold K22_5
      generalize encT us ts = ET at *
      generalize ws.map PyData.int = WS at *
      generalize priceD ((tget T ts).map (costM ws)) = PD at *
      simp only [e_nil, e_seq, e_fz, e_bk, e_ct, e_ret, e_retN, e_drop, e_set, e_if, e_for, e_cC, e_c2, e_c1, e_cA, e_aN, e_aC, e_cB, e_asB, e_bNot, e_bAnd, e_bOr, e_vAnd, e_vOr, e_vNot, e_vIf, e_bYes, e_iL, e_iT, e_iLb, e_iR, e_gL1, e_gL2, e_gL3, e_gT, e_gLb1, e_gLb2, e_gLb3, e_gLb4, e_nb1, e_nb2, e_bor1, e_bor2, e_bor3, e_bor4, e_arg1, e_arg2, e_arg3, e_arg4, e_putd, e_puto, e_toD1, e_toD2, e_allD0, e_allD1, e_allD2, e_gTupl, e_gList, e_tgnm, e_tgtp, e_tg0, e_tg1, e_sq1, e_sq2, e_sq3, e_sq4, e_sq5, e_qv2, e_qv3, e_qv4, e_qv5, e_data1, e_data2, e_data3, e_okI, e_okB, e_i2, e_sub, e_mul, e_mod, e_div, e_pow, e_lt, e_le, e_gt, e_ge, e_neg, e_addI, e_addS, e_addT, e_addL1, e_addL2, e_addL3, e_addL4, e_addL5, e_addL6, e_addL7, e_addL8, e_addL9, e_eq, e_ne, e_in, e_notIn, e_inT, e_inT2, e_inL1, e_inL2, e_inL3, e_is, e_isNot, e_isN1, e_isN2, e_isN3, e_isN4, e_isN5, e_isN6, e_isN7, e_ixT, e_ixL, e_ixO, e_ixB, e_ixSc, e_lenT, e_lenL, e_lenO, e_lenB, e_lenSc, e_lenS, e_tupT, e_tupL, e_tupO, e_tupB, e_lisT, e_lisL, e_lisO, e_lisB, e_min2, e_max2, e_any, e_all, e_sum, e_sorted, e_rev, e_sl, e_oN, e_isi, e_lc, e_wipe0, e_wipe1, e_iA, e_iAb, e_gAq1, e_gAq2, e_gAq3, e_gAqb1, e_gAqb2, e_gAqb3, e_gAqb4, e_no, e_cCh, e_cChI, e_aug, e_decT, e_decF, e_cDispS, e_cDT, e_cDK, e_cDisp1, e_storeA, e_stR1, e_stR2, e_stR3, e_sd1, e_keyD1, e_keyD2, e_keyTD, e_intsD, e_intsD0, e_borT, e_borT2, e_borK, e_borK2, e_argT, e_argT2, e_argK, e_argK2, e_nbT, e_nbK, e_putT, e_putK, e_gAt1, e_gAt2, e_gAt3, e_gAt4, e_gGetDK, e_gGetDT, e_gIxD, e_gInD, e_gNotInD, e_cGet1, e_cGet2, e_dk1, e_dk2, e_dk3, e_dk4, e_dt1, e_dt2, e_del, atI_zero, e_at1, e_at2, e_at3, e_at4, e_at5, e_at6, e_at7, e_at8, e_at9, e_atm, e_V, e_retV, e_unp, e_app, e_store, e_fzE, oS, rsO_some, Rs.bind_ok, Rs.bind_no, Rs.out_ok, Out.then_nx, Out.then_rt, Out.then_ct, Out.then_bk, fin_rt, fin_nx, List.getElem?_cons_zero, List.getElem?_cons_succ, List.set_cons_succ, List.set_cons_zero, List.length_cons, List.length_nil, Nat.reduceAdd, Nat.reduceLT, Nat.reduceLeDiff, Nat.reduceEqDiff, if_true, if_false, Bool.false_eq_true, Bool.not_true, Bool.not_false, and_self, true_and, and_true, List.map_cons, List.map_nil, Option.map_some, sh_int, sh_bool, sh_none, sh_tup, sh_lst, eqv_int, reduceIte, Option.bind_some, Option.bind_none, kitB_ll, kitB_lt, kitB_tt, kitB_tl, kitB_ii, tyD_list, tyD_int, Bool.true_and, Bool.false_and, Bool.and_true, Bool.and_false, Bool.or_true, Bool.true_or, Bool.false_or, Bool.or_false, Bool.and_self, Bool.or_self, e_cAK, List.append_nil, List.nil_append, List.cons_append, e_andB, e_orB, e_andR, e_orR, tyD_tuple, eqv_bool, eqv_none, tyD_bool, tyD_str, tyD_none, kitB_bb, kitB_nb, kitB_bi, kitB_ib, kitB_nl, kitB_nt, beq_self_eq_true, p5]
    have st6 : K22_6 [some (.sc ns), some (.d (.int (w : Int))), some (.d (encT us ts)), some (.d (.tuple (encU us))), some (.d (tupD ts)), some (.d (.int ((1 + d1 : Nat) : Int))), some (.d (.list (ws.map .int))), some (.d (.tuple [.int ((1 + d1 : Nat) : Int), priceD ((tget T ts).map (costM ws)), .tuple OUT]))] = .nx [some (.sc ns), some (.d (.int (w : Int))), some (.d (encT us ts)), some (.d (.tuple (encU us))), some (.d (tupD ts)), some (.d (.int ((1 + d1 : Nat) : Int))), some (.d (.list (ws.map .int))), some (.d (.tuple [.int ((1 + d1 : Nat) : Int), priceD ((tget T ts).map (costM ws)), .tuple OUT]))] := by
      unfold K22_6
      generalize encT us ts = ET at *
      generalize encU us = EU at *
      generalize tupD ts = TT at *
      generalize ws.map PyData.int = WS at *
      generalize priceD ((tget T ts).map (costM ws)) = PD at *
      simp only [e_nil, e_seq, e_fz, e_bk, e_ct, e_ret, e_retN, e_drop, e_set, e_if, e_for, e_cC, e_c2, e_c1, e_cA, e_aN, e_aC, e_cB, e_asB, e_bNot, e_bAnd, e_bOr, e_vAnd, e_vOr, e_vNot, e_vIf, e_bYes, e_iL, e_iT, e_iLb, e_iR, e_gL1, e_gL2, e_gL3, e_gT, e_gLb1, e_gLb2, e_gLb3, e_gLb4, e_nb1, e_nb2, e_bor1, e_bor2, e_bor3, e_bor4, e_arg1, e_arg2, e_arg3, e_arg4, e_putd, e_puto, e_toD1, e_toD2, e_allD0, e_allD1, e_allD2, e_gTupl, e_gList, e_tgnm, e_tgtp, e_tg0, e_tg1, e_sq1, e_sq2, e_sq3, e_sq4, e_sq5, e_qv2, e_qv3, e_qv4, e_qv5, e_data1, e_data2, e_data3, e_okI, e_okB, e_i2, e_sub, e_mul, e_mod, e_div, e_pow, e_lt, e_le, e_gt, e_ge, e_neg, e_addI, e_addS, e_addT, e_addL1, e_addL2, e_addL3, e_addL4, e_addL5, e_addL6, e_addL7, e_addL8, e_addL9, e_eq, e_ne, e_in, e_notIn, e_inT, e_inT2, e_inL1, e_inL2, e_inL3, e_is, e_isNot, e_isN1, e_isN2, e_isN3, e_isN4, e_isN5, e_isN6, e_isN7, e_ixT, e_ixL, e_ixO, e_ixB, e_ixSc, e_lenT, e_lenL, e_lenO, e_lenB, e_lenSc, e_lenS, e_tupT, e_tupL, e_tupO, e_tupB, e_lisT, e_lisL, e_lisO, e_lisB, e_min2, e_max2, e_any, e_all, e_sum, e_sorted, e_rev, e_sl, e_oN, e_isi, e_lc, e_wipe0, e_wipe1, e_iA, e_iAb, e_gAq1, e_gAq2, e_gAq3, e_gAqb1, e_gAqb2, e_gAqb3, e_gAqb4, e_no, e_cCh, e_cChI, e_aug, e_decT, e_decF, e_cDispS, e_cDT, e_cDK, e_cDisp1, e_storeA, e_stR1, e_stR2, e_stR3, e_sd1, e_keyD1, e_keyD2, e_keyTD, e_intsD, e_intsD0, e_borT, e_borT2, e_borK, e_borK2, e_argT, e_argT2, e_argK, e_argK2, e_nbT, e_nbK, e_putT, e_putK, e_gAt1, e_gAt2, e_gAt3, e_gAt4, e_gGetDK, e_gGetDT, e_gIxD, e_gInD, e_gNotInD, e_cGet1, e_cGet2, e_dk1, e_dk2, e_dk3, e_dk4, e_dt1, e_dt2, e_del, atI_zero, e_at1, e_at2, e_at3, e_at4, e_at5, e_at6, e_at7, e_at8, e_at9, e_atm, e_V, e_retV, e_unp, e_app, e_store, e_fzE, oS, rsO_some, Rs.bind_ok, Rs.bind_no, Rs.out_ok, Out.then_nx, Out.then_rt, Out.then_ct, Out.then_bk, fin_rt, fin_nx, List.getElem?_cons_zero, List.getElem?_cons_succ, List.set_cons_succ, List.set_cons_zero, List.length_cons, List.length_nil, Nat.reduceAdd, Nat.reduceLT, Nat.reduceLeDiff, Nat.reduceEqDiff, if_true, if_false, Bool.false_eq_true, Bool.not_true, Bool.not_false, and_self, true_and, and_true, List.map_cons, List.map_nil, Option.map_some, sh_int, sh_bool, sh_none, sh_tup, sh_lst, eqv_int, reduceIte, Option.bind_some, Option.bind_none, kitB_ll, kitB_lt, kitB_tt, kitB_tl, kitB_ii, tyD_list, tyD_int, Bool.true_and, Bool.false_and, Bool.and_true, Bool.and_false, Bool.or_true, Bool.true_or, Bool.false_or, Bool.or_false, Bool.and_self, Bool.or_self, e_cAK, List.append_nil, List.nil_append, List.cons_append, e_andB, e_orB, e_andR, e_orR, tyD_tuple, eqv_bool, eqv_none, tyD_bool, tyD_str, tyD_none, kitB_bb, kitB_nb, kitB_bi, kitB_ib, kitB_nl, kitB_nt, beq_self_eq_true, p6, esh, erf]
    unfold K22
    rw [e_seq, st1, Out.then_nx, e_seq, st2, Out.then_nx, e_seq, st3, Out.then_nx, e_seq, st4, Out.then_nx, e_seq, st5, Out.then_nx, st6]
    exact ⟨_, .inl rfl, _, _, _, _, _, _, _, rfl⟩) ⟨none, none, none, none, none, none, none, rfl⟩
  show (sSeq _ _ [some (.sc ns), none, none, none, none, none, none, none]).fin = _
  rw [e_seq, e_for, hr, Rs.out_ok, e1]
  simp only [e_nil, e_seq, e_fz, e_bk, e_ct, e_ret, e_retN, e_drop, e_set, e_if, e_for, e_cC, e_c2, e_c1, e_cA, e_aN, e_aC, e_cB, e_asB, e_bNot, e_bAnd, e_bOr, e_vAnd, e_vOr, e_vNot, e_vIf, e_bYes, e_iL, e_iT, e_iLb, e_iR, e_gL1, e_gL2, e_gL3, e_gT, e_gLb1, e_gLb2, e_gLb3, e_gLb4, e_nb1, e_nb2, e_bor1, e_bor2, e_bor3, e_bor4, e_arg1, e_arg2, e_arg3, e_arg4, e_putd, e_puto, e_toD1, e_toD2, e_allD0, e_allD1, e_allD2, e_gTupl, e_gList, e_tgnm, e_tgtp, e_tg0, e_tg1, e_sq1, e_sq2, e_sq3, e_sq4, e_sq5, e_qv2, e_qv3, e_qv4, e_qv5, e_data1, e_data2, e_data3, e_okI, e_okB, e_i2, e_sub, e_mul, e_mod, e_div, e_pow, e_lt, e_le, e_gt, e_ge, e_neg, e_addI, e_addS, e_addT, e_addL1, e_addL2, e_addL3, e_addL4, e_addL5, e_addL6, e_addL7, e_addL8, e_addL9, e_eq, e_ne, e_in, e_notIn, e_inT, e_inT2, e_inL1, e_inL2, e_inL3, e_is, e_isNot, e_isN1, e_isN2, e_isN3, e_isN4, e_isN5, e_isN6, e_isN7, e_ixT, e_ixL, e_ixO, e_ixB, e_ixSc, e_lenT, e_lenL, e_lenO, e_lenB, e_lenSc, e_lenS, e_tupT, e_tupL, e_tupO, e_tupB, e_lisT, e_lisL, e_lisO, e_lisB, e_min2, e_max2, e_any, e_all, e_sum, e_sorted, e_rev, e_sl, e_oN, e_isi, e_lc, e_wipe0, e_wipe1, e_iA, e_iAb, e_gAq1, e_gAq2, e_gAq3, e_gAqb1, e_gAqb2, e_gAqb3, e_gAqb4, e_no, e_cCh, e_cChI, e_aug, e_decT, e_decF, e_cDispS, e_cDT, e_cDK, e_cDisp1, e_storeA, e_stR1, e_stR2, e_stR3, e_sd1, e_keyD1, e_keyD2, e_keyTD, e_intsD, e_intsD0, e_borT, e_borT2, e_borK, e_borK2, e_argT, e_argT2, e_argK, e_argK2, e_nbT, e_nbK, e_putT, e_putK, e_gAt1, e_gAt2, e_gAt3, e_gAt4, e_gGetDK, e_gGetDT, e_gIxD, e_gInD, e_gNotInD, e_cGet1, e_cGet2, e_dk1, e_dk2, e_dk3, e_dk4, e_dt1, e_dt2, e_del, atI_zero, e_at1, e_at2, e_at3, e_at4, e_at5, e_at6, e_at7, e_at8, e_at9, e_atm, e_V, e_retV, e_unp, e_app, e_store, e_fzE, oS, rsO_some, Rs.bind_ok, Rs.bind_no, Rs.out_ok, Out.then_nx, Out.then_rt, Out.then_ct, Out.then_bk, fin_rt, fin_nx, List.getElem?_cons_zero, List.getElem?_cons_succ, List.set_cons_succ, List.set_cons_zero, List.length_cons, List.length_nil, Nat.reduceAdd, Nat.reduceLT, Nat.reduceLeDiff, Nat.reduceEqDiff, if_true, if_false, Bool.false_eq_true, Bool.not_true, Bool.not_false, and_self, true_and, and_true, List.map_cons, List.map_nil, Option.map_some, sh_int, sh_bool, sh_none, sh_tup, sh_lst, eqv_int, reduceIte, Option.bind_some, Option.bind_none, kitB_ll, kitB_lt, kitB_tt, kitB_tl, kitB_ii, tyD_list, tyD_int, Bool.true_and, Bool.false_and, Bool.and_true, Bool.and_false, Bool.or_true, Bool.true_or, Bool.false_or, Bool.or_false, Bool.and_self, Bool.or_self, e_cAK, List.append_nil, List.nil_append, List.cons_append, e_andB, e_orB, e_andR, e_orR, tyD_tuple, eqv_bool, eqv_none, tyD_bool, tyD_str, tyD_none, kitB_bb, kitB_nb, kitB_bi, kitB_ib, kitB_nl, kitB_nt, beq_self_eq_true]
def topS (i : Nat) : Stmt := PySem.Challenge.pw_tidyback_k22_price_certificates.main.body.getD i (.Pass ⟨0, 0, 0, 0⟩)
structure Txt (K : PySem.W.Frag) (mg : Str → Option Value) (a__law_cell a__law_draw a__law_task a__law_prices a_is_possible a_moved a_transitions a_cheapest_ways a_price_certificate a__law_can a__law_moved a__law_costs a__law_price_paper a_law : Addr) : Prop where
  g__law_cell : mg "_law_cell" = some (.ref a__law_cell)
  k__law_cell : PySem.W.keepIn K (.ref a__law_cell) = true
  g__law_draw : mg "_law_draw" = some (.ref a__law_draw)
  k__law_draw : PySem.W.keepIn K (.ref a__law_draw) = true
  g__law_task : mg "_law_task" = some (.ref a__law_task)
  k__law_task : PySem.W.keepIn K (.ref a__law_task) = true
  g__law_prices : mg "_law_prices" = some (.ref a__law_prices)
  k__law_prices : PySem.W.keepIn K (.ref a__law_prices) = true
  g_is_possible : mg "is_possible" = some (.ref a_is_possible)
  k_is_possible : PySem.W.keepIn K (.ref a_is_possible) = true
  g_moved : mg "moved" = some (.ref a_moved)
  k_moved : PySem.W.keepIn K (.ref a_moved) = true
  g_transitions : mg "transitions" = some (.ref a_transitions)
  k_transitions : PySem.W.keepIn K (.ref a_transitions) = true
  g_cheapest_ways : mg "cheapest_ways" = some (.ref a_cheapest_ways)
  k_cheapest_ways : PySem.W.keepIn K (.ref a_cheapest_ways) = true
  g_price_certificate : mg "price_certificate" = some (.ref a_price_certificate)
  k_price_certificate : PySem.W.keepIn K (.ref a_price_certificate) = true
  g__law_can : mg "_law_can" = some (.ref a__law_can)
  k__law_can : PySem.W.keepIn K (.ref a__law_can) = true
  g__law_moved : mg "_law_moved" = some (.ref a__law_moved)
  k__law_moved : PySem.W.keepIn K (.ref a__law_moved) = true
  g__law_costs : mg "_law_costs" = some (.ref a__law_costs)
  k__law_costs : PySem.W.keepIn K (.ref a__law_costs) = true
  g__law_price_paper : mg "_law_price_paper" = some (.ref a__law_price_paper)
  k__law_price_paper : PySem.W.keepIn K (.ref a__law_price_paper) = true
  g_law : mg "law" = some (.ref a_law)
  k_law : PySem.W.keepIn K (.ref a_law) = true
  z_all : mg "all" = none
  z_isinstance : mg "isinstance" = none
  z_len : mg "len" = none
  z_list : mg "list" = none
  z_min : mg "min" = none
  z_range : mg "range" = none
  z_sorted : mg "sorted" = none
  z_tuple : mg "tuple" = none
  h_heappop : mg "heappop" = some (.builtin "_heapq.heappop")
  h_heappush : mg "heappush" = some (.builtin "_heapq.heappush")
section
variable {P : Program} {w : World} {K : PySem.W.Frag} {mg : Str → Option Value} {base : Heap} {ca : CA} {a__law_cell a__law_draw a__law_task a__law_prices a_is_possible a_moved a_transitions a_cheapest_ways a_price_certificate a__law_can a__law_moved a__law_costs a__law_price_paper a_law : Addr}
abbrev s__law_cell : Stmt := topS 10
abbrev n__law_cell : List Str := ["_law_script", "_law_k"]
theorem sc__law_cell : FnScope n__law_cell ["_law_script", "_law_k"] (defScope s__law_cell) := ⟨rfl, rfl, rfl, by decide +kernel, rfl, by decide +kernel, by decide +kernel⟩
theorem ok__law_cell (T : Txt K mg a__law_cell a__law_draw a__law_task a__law_prices a_is_possible a_moved a_transitions a_cheapest_ways a_price_certificate a__law_can a__law_moved a__law_costs a__law_price_paper a_law) {fd : FuncData} (F : Fun K "_law_cell" "_law_cell" s__law_cell a__law_cell fd) : FnOk P w K mg base (L2.CX P w) 1 a__law_cell fd ["_law_script", "_law_k"] (spV K ca 2 F__law_cell) :=
  fn_ok (k := 0) (N := n__law_cell) (body := B__law_cell) F sc__law_cell (fun cdv A outer s H E hr tk hp =>
    (vss_cons (vs_if (vt_cmp op_lt s_lt (vv 1) (ve_callB call_lenA c_len (by rfl) T.z_len (by decide +kernel) (va_cons (vv 0) va_nil)) (nomark _)) (vss_one (vs_ret (ve_ix ix_seq s_ix (vv 0) (vv 1) (fun _ _ => rfl)))) vss_nil)
    (vss_one (vs_ret ve_int))))
abbrev s__law_draw : Stmt := topS 11
abbrev n__law_draw : List Str := ["_law_script", "_law_k", "_law_sizes", "_law_cell_here", "_law_drawn", "_law_size", "_law_mixed", "_law_j"]
theorem sc__law_draw : FnScope n__law_draw ["_law_script", "_law_k", "_law_sizes"] (defScope s__law_draw) := ⟨rfl, rfl, rfl, by decide +kernel, rfl, by decide +kernel, by decide +kernel⟩
theorem ok__law_draw (T : Txt K mg a__law_cell a__law_draw a__law_task a__law_prices a_is_possible a_moved a_transitions a_cheapest_ways a_price_certificate a__law_can a__law_moved a__law_costs a__law_price_paper a_law) {fd__law_cell : FuncData} (G__law_cell : FnOk P w K mg base (L2.CX P w) 1 a__law_cell fd__law_cell ["_law_script", "_law_k"] (spV K ca 2 F__law_cell)) (b__law_cell : Binds K fd__law_cell ["_law_script", "_law_k"] []) {fd : FuncData} (F : Fun K "_law_draw" "_law_draw" s__law_draw a__law_draw fd) : FnOk P w K mg base (L2.CX P w) 2 a__law_draw fd ["_law_script", "_law_k", "_law_sizes"] (spV K ca 3 F__law_draw) :=
  fn_ok (k := 1) (N := n__law_draw) (body := B__law_draw) F sc__law_draw (fun cdv A outer s H E hr tk hp =>
    (vss_cons (vs_set (i := 3) sc__law_draw.nd rfl (Or.inl rfl) (ve_call G__law_cell (hr.mono (by decide)) (by rfl) T.g__law_cell T.k__law_cell b__law_cell tk (va_cons (vv 0) (va_cons (vv 1) va_nil))))
    (vss_cons (vs_if (vt_cmp op_lt s_lt (vv 3) ve_int (nomark _)) (vss_one (vs_set (i := 3) sc__law_draw.nd rfl (Or.inl rfl) (ve_un un_neg s_neg (vv 3)))) vss_nil)
    (vss_cons (vs_set (i := 4) sc__law_draw.nd rfl (Or.inl rfl) (ve_lst va_nil))
    (vss_cons (vs_if (vt_cmp op_ge s_ge (vv 3) (ve_op op_pow s_pow ve_int ve_int) (nomark _)) (vss_cons (vs_set (i := 3) sc__law_draw.nd rfl (Or.inl rfl) (ve_op op_sub s_sub (vv 3) (ve_op op_pow s_pow ve_int ve_int)))
    (vss_cons (vs_for hp rfl (vi_list (vv 2)) (vg_name sc__law_draw.nd rfl (Or.inl rfl)) (vss_cons (vs_app 4 (ve_op op_mod s_mod (vv 3) (vv 5)))
    (vss_one (vs_set (i := 3) sc__law_draw.nd rfl (Or.inl rfl) (ve_op op_fdiv s_div (vv 3) (vv 5))))))
    (vss_one (vs_retv 4)))) vss_nil)
    (vss_cons (vs_set (i := 6) sc__law_draw.nd rfl (Or.inl rfl) (ve_op op_mod s_mod (ve_op op_addA s_add (ve_op op_addA s_add (vv 3) ve_int) (ve_op op_mul s_mul ve_int (vv 1))) ve_int))
    (vss_cons (vs_for hp rfl (vi_range1 (by rfl) T.z_range (va_cons (ve_callB call_lenA c_len (by rfl) T.z_len (by decide +kernel) (va_cons (vv 2) va_nil)) va_nil)) (vg_name sc__law_draw.nd rfl (Or.inl rfl)) (vss_cons (vs_set (i := 6) sc__law_draw.nd rfl (Or.inl rfl) (ve_op op_mod s_mod (ve_op op_addA s_add (ve_op op_addA s_add (ve_op op_mul s_mul (vv 6) ve_int) ve_int) (vv 7)) ve_int))
    (vss_cons (vs_set (i := 6) sc__law_draw.nd rfl (Or.inl rfl) (ve_op op_mod s_mod (ve_op op_addA s_add (ve_op op_mul s_mul (vv 6) ve_int) ve_int) ve_int))
    (vss_one (vs_app 4 (ve_op op_mod s_mod (ve_op op_fdiv s_div (vv 6) ve_int) (ve_ix ix_seq s_ix (vv 2) (vv 7) (fun _ _ => rfl))))))))
    (vss_one (vs_retv 4)))))))))
abbrev s__law_task : Stmt := topS 12
abbrev n__law_task : List Str := ["_law_script", "_law_at", "_law_most", "_law_head", "_law_uses", "_law_k", "_law_digits", "_law_row", "_law_j", "_law_targets"]
theorem sc__law_task : FnScope n__law_task ["_law_script", "_law_at", "_law_most"] (defScope s__law_task) := ⟨rfl, rfl, rfl, by decide +kernel, rfl, by decide +kernel, by decide +kernel⟩
theorem ok__law_task (T : Txt K mg a__law_cell a__law_draw a__law_task a__law_prices a_is_possible a_moved a_transitions a_cheapest_ways a_price_certificate a__law_can a__law_moved a__law_costs a__law_price_paper a_law) {fd__law_draw : FuncData} (G__law_draw : FnOk P w K mg base (L2.CX P w) 2 a__law_draw fd__law_draw ["_law_script", "_law_k", "_law_sizes"] (spV K ca 3 F__law_draw)) (b__law_draw : Binds K fd__law_draw ["_law_script", "_law_k", "_law_sizes"] []) {fd : FuncData} (F : Fun K "_law_task" "_law_task" s__law_task a__law_task fd) : FnOk P w K mg base (L2.CX P w) 3 a__law_task fd ["_law_script", "_law_at", "_law_most"] (spV K ca 3 F__law_task) :=
  fn_ok (k := 2) (N := n__law_task) (body := B__law_task) F sc__law_task (fun cdv A outer s H E hr tk hp =>
    (vss_cons (vs_set (i := 3) sc__law_task.nd rfl (Or.inl rfl) (ve_call G__law_draw (hr.mono (by decide)) (by rfl) T.g__law_draw T.k__law_draw b__law_draw tk (va_cons (vv 0) (va_cons (vv 1) (va_cons (ve_lst (va_cons (vv 2) (va_cons ve_int (va_cons ve_int va_nil)))) va_nil)))))
    (vss_cons (vs_set (i := 4) sc__law_task.nd rfl (Or.inl rfl) (ve_lst va_nil))
    (vss_cons (vs_for hp rfl (vi_range1 (by rfl) T.z_range (va_cons (ve_op op_addA s_add ve_int (ve_ix ix_seq s_ix (vv 3) ve_int (fun _ _ => rfl))) va_nil)) (vg_name sc__law_task.nd rfl (Or.inl rfl)) (vss_cons (vs_set (i := 6) sc__law_task.nd rfl (Or.inl rfl) (ve_call G__law_draw (hr.mono (by decide)) (by rfl) T.g__law_draw T.k__law_draw b__law_draw tk (va_cons (vv 0) (va_cons (ve_op op_addA s_add (ve_op op_addA s_add (vv 1) ve_int) (vv 5)) (va_cons (ve_lst (va_cons ve_int (va_cons ve_int (va_cons ve_int (va_cons ve_int (va_cons ve_int (va_cons ve_int (va_cons ve_int (va_cons ve_int (va_cons ve_int va_nil)))))))))) va_nil)))))
    (vss_cons (vs_set (i := 7) sc__law_task.nd rfl (Or.inl rfl) (ve_lst va_nil))
    (vss_cons (vs_for hp rfl (vi_range1 (by rfl) T.z_range (va_cons (vv 5) va_nil)) (vg_name sc__law_task.nd rfl (Or.inl rfl)) (vss_one (vs_if (vw (vw_and (vt_cmp (op_eqD hr.units) s_eq (ve_ix ix_seq s_ix (vv 6) (ve_op op_addA s_add ve_int (vv 8)) (fun _ _ => rfl)) ve_int (nomark _)) (vw_and1 (vw (vw_or (vt_cmp op_gt s_gt (ve_ix ix_seq s_ix (vv 6) ve_int (fun _ _ => rfl)) ve_int (nomark _)) (vw_or1 (vt_cmp op_ge s_ge (ve_op op_addA s_add (vv 8) ve_int) (vv 5) (nomark _)))))))) (vss_one (vs_app 7 (vv 8))) vss_nil)))
    (vss_one (vs_app 4 (ve_callTy call_tupN c_tuple (by rfl) T.z_tuple (by decide +kernel) (va_cons (vv 7) va_nil))))))))
    (vss_cons (vs_set (i := 9) sc__law_task.nd rfl (Or.inl rfl) (ve_lst va_nil))
    (vss_cons (vs_for hp rfl (vi_range1 (by rfl) T.z_range (va_cons (ve_callB call_lenA c_len (by rfl) T.z_len (by decide +kernel) (va_cons (vv 4) va_nil)) va_nil)) (vg_name sc__law_task.nd rfl (Or.inl rfl)) (vss_one (vs_if (vw (vw_and (vt_cmp op_gt s_gt (ve_ix ix_seq s_ix (vv 3) ve_int (fun _ _ => rfl)) ve_int (nomark _)) (vw_and1 (vt_cmp (op_eqD hr.units) s_eq (ve_op op_mod s_mod (ve_op op_fdiv s_div (ve_ix ix_seq s_ix (vv 3) ve_int (fun _ _ => rfl)) (ve_ix ix_seq s_ix (ve_lst (va_cons ve_int (va_cons ve_int (va_cons ve_int (va_cons ve_int (va_cons ve_int (va_cons ve_int (va_cons ve_int (va_cons ve_int va_nil))))))))) (vv 5) (fun _ _ => rfl))) ve_int) ve_int (nomark _))))) (vss_one (vs_app 9 (vv 5))) vss_nil)))
    (vss_cons (vs_if (vt_cmp (op_eqD hr.units) s_eq (ve_callB call_lenA c_len (by rfl) T.z_len (by decide +kernel) (va_cons (vv 9) va_nil)) ve_int (nomark _)) (vss_one (vs_set (i := 9) sc__law_task.nd rfl (Or.inl rfl) (ve_lst (va_cons (ve_op op_sub s_sub (ve_callB call_lenA c_len (by rfl) T.z_len (by decide +kernel) (va_cons (vv 4) va_nil)) ve_int) va_nil)))) vss_nil)
    (vss_one (vs_ret (ve_tup (va_cons (ve_callTy call_tupN c_tuple (by rfl) T.z_tuple (by decide +kernel) (va_cons (vv 4) va_nil)) (va_cons (ve_callTy call_tupN c_tuple (by rfl) T.z_tuple (by decide +kernel) (va_cons (vv 9) va_nil)) va_nil))))))))))))
abbrev s__law_prices : Stmt := topS 16
abbrev n__law_prices : List Str := ["_law_script", "_law_at", "_law_many", "_law_digits", "_law_prices_here", "_law_k"]
theorem sc__law_prices : FnScope n__law_prices ["_law_script", "_law_at", "_law_many"] (defScope s__law_prices) := ⟨rfl, rfl, rfl, by decide +kernel, rfl, by decide +kernel, by decide +kernel⟩
theorem ok__law_prices (T : Txt K mg a__law_cell a__law_draw a__law_task a__law_prices a_is_possible a_moved a_transitions a_cheapest_ways a_price_certificate a__law_can a__law_moved a__law_costs a__law_price_paper a_law) {fd__law_draw : FuncData} (G__law_draw : FnOk P w K mg base (L2.CX P w) 2 a__law_draw fd__law_draw ["_law_script", "_law_k", "_law_sizes"] (spV K ca 3 F__law_draw)) (b__law_draw : Binds K fd__law_draw ["_law_script", "_law_k", "_law_sizes"] []) {fd : FuncData} (F : Fun K "_law_prices" "_law_prices" s__law_prices a__law_prices fd) : FnOk P w K mg base (L2.CX P w) 3 a__law_prices fd ["_law_script", "_law_at", "_law_many"] (spV K ca 3 F__law_prices) :=
  fn_ok (k := 2) (N := n__law_prices) (body := B__law_prices) F sc__law_prices (fun cdv A outer s H E hr tk hp =>
    (vss_cons (vs_set (i := 3) sc__law_prices.nd rfl (Or.inl rfl) (ve_call G__law_draw (hr.mono (by decide)) (by rfl) T.g__law_draw T.k__law_draw b__law_draw tk (va_cons (vv 0) (va_cons (vv 1) (va_cons (ve_op op_addA s_add (ve_lst (va_cons ve_int va_nil)) (ve_op op_rep s_rep (ve_lst (va_cons ve_int va_nil)) ve_int)) va_nil)))))
    (vss_cons (vs_set (i := 4) sc__law_prices.nd rfl (Or.inl rfl) (ve_lst va_nil))
    (vss_cons (vs_for hp rfl (vi_range1 (by rfl) T.z_range (va_cons (vv 2) va_nil)) (vg_name sc__law_prices.nd rfl (Or.inl rfl)) (vss_one (vs_app 4 (ve_op op_addA s_add ve_int (ve_ix ix_seq s_ix (ve_lst (va_cons (ve_ix ix_seq s_ix (vv 3) (ve_op op_addA s_add ve_int (vv 5)) (fun _ _ => rfl)) (va_cons (ve_op op_mod s_mod (ve_ix ix_seq s_ix (vv 3) (ve_op op_addA s_add ve_int (vv 5)) (fun _ _ => rfl)) ve_int) (va_cons (ve_op op_mod s_mod (ve_ix ix_seq s_ix (vv 3) (ve_op op_addA s_add ve_int (vv 5)) (fun _ _ => rfl)) ve_int) (va_cons ve_int va_nil))))) (ve_ix ix_seq s_ix (vv 3) ve_int (fun _ _ => rfl)) (fun _ _ => rfl))))))
    (vss_one (vs_retv 4))))))
abbrev s_is_possible : Stmt := topS 2
abbrev n_is_possible : List Str := ["task", "configuration", "move", "step"]
theorem sc_is_possible : FnScope n_is_possible ["task", "configuration", "move"] (defScope s_is_possible) := ⟨rfl, rfl, rfl, by decide +kernel, rfl, by decide +kernel, by decide +kernel⟩
theorem ok_is_possible (T : Txt K mg a__law_cell a__law_draw a__law_task a__law_prices a_is_possible a_moved a_transitions a_cheapest_ways a_price_certificate a__law_can a__law_moved a__law_costs a__law_price_paper a_law) {fd : FuncData} (F : Fun K "is_possible" "is_possible" s_is_possible a_is_possible fd) : FnOk P w K mg base (L2.CX P w) 1 a_is_possible fd ["task", "configuration", "move"] (spV K ca 3 F_is_possible) :=
  fn_ok (k := 0) (N := n_is_possible) (body := B_is_possible) F sc_is_possible (fun cdv A outer s H E hr tk hp =>
    (vss_cons (vs_for hp rfl (vi_any (ve_ix ix_seq s_ix (ve_ix ix_seq s_ix (vv 0) ve_int (fun _ _ => rfl)) (vv 2) (fun _ _ => rfl))) (vg_name sc_is_possible.nd rfl (Or.inl rfl)) (vss_one (vs_if (vt_cmp (op_notInA (hu65 hr)) s_notIn (vv 3) (vv 1) (by rfl)) (vss_one (vs_ret ve_bl)) vss_nil)))
    (vss_one (vs_ret ve_bl))))
abbrev s_moved : Stmt := topS 3
abbrev n_moved : List Str := ["configuration", "move", "step"]
theorem sc_moved : FnScope n_moved ["configuration", "move"] (defScope s_moved) := ⟨rfl, rfl, rfl, by decide +kernel, rfl, by decide +kernel, by decide +kernel⟩
theorem ok_moved (T : Txt K mg a__law_cell a__law_draw a__law_task a__law_prices a_is_possible a_moved a_transitions a_cheapest_ways a_price_certificate a__law_can a__law_moved a__law_costs a__law_price_paper a_law) {fd : FuncData} (F : Fun K "moved" "moved" s_moved a_moved fd) : FnOk P w K mg base (L2.CX P w) 1 a_moved fd ["configuration", "move"] (spV K ca 2 F_moved) :=
  fn_ok (k := 0) (N := n_moved) (body := B_moved) F sc_moved (fun cdv A outer s H E hr tk hp =>
    (vss_cons (vs_if (vt_cmp (op_inA (hu65 hr)) s_in (vv 1) (vv 0) (by rfl)) (vss_one (vs_ret (ve_callTy call_tupN c_tuple (by rfl) T.z_tuple (by decide +kernel) (va_cons (ve_lc (own := [("step", 2)]) rfl sc_moved.nd (vj_any (vv 0)) (blkOk_by (own := [("step", 2)]) (N := n_moved) (sc := defScope s_moved) (by decide +kernel)) (by decide) (fun _ _ _ _ _ => (vg_name sc_moved.nd rfl (Or.inl rfl))) (fun _ _ _ _ _ => (vts_one (vt_cmp (op_neD hr.units) s_ne (vv 2) (vv 1) (nomark _)))) (fun _ _ _ _ _ => (vv 2))) va_nil)))) vss_nil)
    (vss_one (vs_ret (ve_callTy call_tupN c_tuple (by rfl) T.z_tuple (by decide +kernel) (va_cons (ve_callB cr_sortedI c_sorted (by rfl) T.z_sorted (by decide +kernel) (va_cons (ve_op op_addA s_add (ve_callTy call_list_of c_list (by rfl) T.z_list (by decide +kernel) (va_cons (vv 0) va_nil)) (ve_lst (va_cons (vv 1) va_nil))) va_nil)) va_nil))))))
abbrev s_transitions : Stmt := topS 5
abbrev n_transitions : List Str := ["task", "configuration", "registers", "found", "move", "later"]
theorem sc_transitions : FnScope n_transitions ["task", "configuration", "registers"] (defScope s_transitions) := ⟨rfl, rfl, rfl, by decide +kernel, rfl, by decide +kernel, by decide +kernel⟩
theorem ok_transitions (T : Txt K mg a__law_cell a__law_draw a__law_task a__law_prices a_is_possible a_moved a_transitions a_cheapest_ways a_price_certificate a__law_can a__law_moved a__law_costs a__law_price_paper a_law) {fd_is_possible : FuncData} (G_is_possible : FnOk P w K mg base (L2.CX P w) 1 a_is_possible fd_is_possible ["task", "configuration", "move"] (spV K ca 3 F_is_possible)) (b_is_possible : Binds K fd_is_possible ["task", "configuration", "move"] []) {fd_moved : FuncData} (G_moved : FnOk P w K mg base (L2.CX P w) 1 a_moved fd_moved ["configuration", "move"] (spV K ca 2 F_moved)) (b_moved : Binds K fd_moved ["configuration", "move"] []) {fd : FuncData} (F : Fun K "transitions" "transitions" s_transitions a_transitions fd) : FnOk P w K mg base (L2.CX P w) 2 a_transitions fd ["task", "configuration", "registers"] (spV K ca 3 F_transitions) :=
  fn_ok (k := 1) (N := n_transitions) (body := B_transitions) F sc_transitions (fun cdv A outer s H E hr tk hp =>
    (vss_cons (vs_set (i := 3) sc_transitions.nd rfl (Or.inl rfl) (ve_lst va_nil))
    (vss_cons (vs_for hp rfl (vi_range1 (by rfl) T.z_range (va_cons (ve_callB call_lenA c_len (by rfl) T.z_len (by decide +kernel) (va_cons (ve_ix ix_seq s_ix (vv 0) ve_int (fun _ _ => rfl)) va_nil)) va_nil)) (vg_name sc_transitions.nd rfl (Or.inl rfl)) (vss_one (vs_if (vt_val (ve_call G_is_possible (hr.mono (by decide)) (by rfl) T.g_is_possible T.k_is_possible b_is_possible tk (va_cons (vv 0) (va_cons (vv 1) (va_cons (vv 4) va_nil))))) (vss_cons (vs_set (i := 5) sc_transitions.nd rfl (Or.inl rfl) (ve_call G_moved (hr.mono (by decide)) (by rfl) T.g_moved T.k_moved b_moved tk (va_cons (vv 1) (va_cons (vv 4) va_nil))))
    (vss_one (vs_if (vt_cmp op_le s_le (ve_callB call_lenA c_len (by rfl) T.z_len (by decide +kernel) (va_cons (vv 5) va_nil)) (vv 2) (nomark _)) (vss_one (vs_fz 5 (vs_app 3 (ve_tup (va_cons (vv 4) (va_cons (vv 5) va_nil)))))) vss_nil))) vss_nil)))
    (vss_one (vs_retv 3)))))
abbrev s_cheapest_ways : Stmt := topS 7
abbrev n_cheapest_ways : List Str := ["task", "registers", "prices", "ways", "queue", "price", "many", "plan", "configuration", "move", "later"]
theorem sc_cheapest_ways : FnScope n_cheapest_ways ["task", "registers", "prices"] (defScope s_cheapest_ways) := ⟨rfl, rfl, rfl, by decide +kernel, rfl, by decide +kernel, by decide +kernel⟩
theorem ok_cheapest_ways (T : Txt K mg a__law_cell a__law_draw a__law_task a__law_prices a_is_possible a_moved a_transitions a_cheapest_ways a_price_certificate a__law_can a__law_moved a__law_costs a__law_price_paper a_law) {fd_transitions : FuncData} (G_transitions : FnOk P w K mg base (L2.CX P w) 2 a_transitions fd_transitions ["task", "configuration", "registers"] (spV K ca 3 F_transitions)) (b_transitions : Binds K fd_transitions ["task", "configuration", "registers"] []) {fd : FuncData} (F : Fun K "cheapest_ways" "cheapest_ways" s_cheapest_ways a_cheapest_ways fd) : FnOk P w K mg base (L2.CX P w) 3 a_cheapest_ways fd ["task", "registers", "prices"] (spV K ca 3 F_cheapest_ways) :=
  fn_ok (k := 2) (N := n_cheapest_ways) (body := B_cheapest_ways) F sc_cheapest_ways (fun cdv A outer s H E hr tk hp =>
    (vss_cons (vs_set (i := 3) sc_cheapest_ways.nd rfl (Or.inl rfl) ve_dnewT)
    (vss_cons (vs_set (i := 4) sc_cheapest_ways.nd rfl (Or.inl rfl) (ve_lst (va_cons (ve_tup (va_cons ve_int (va_cons ve_int (va_cons (ve_tup va_nil) (va_cons (ve_tup va_nil) va_nil))))) va_nil)))
    (vss_cons (vs_while 100000 hp (vt_cmp op_gt s_gt (ve_callB call_lenA c_len (by rfl) T.z_len (by decide +kernel) (va_cons (vv 4) va_nil)) ve_int (nomark _)) (vss_cons (vs_hpop 4 (hu65 hr) (by rfl) T.h_heappop (vg_tup rfl (vgs_cons sc_cheapest_ways.nd rfl (Or.inl rfl) (vgs_cons sc_cheapest_ways.nd rfl (Or.inl rfl) (vgs_cons sc_cheapest_ways.nd rfl (Or.inl rfl) (vgs_cons sc_cheapest_ways.nd rfl (Or.inl rfl) vgs_nil))))))
    (vss_one (vs_if (vt_cmp (op_notInD2 (hu1 hr)) s_notInD (vv 8) (vv 3) (by rfl)) (vss_cons (vs_storeA 3 (hu1 hr) (ve_tup (va_cons (vv 5) (va_cons (vv 7) va_nil))) (vv 8))
    (vss_one (vs_for hp rfl (vi_any (ve_call G_transitions (hr.mono (by decide)) (by rfl) T.g_transitions T.k_transitions b_transitions tk (va_cons (vv 0) (va_cons (vv 8) (va_cons (vv 1) va_nil))))) (vg_tup rfl (vgs_cons sc_cheapest_ways.nd rfl (Or.inl rfl) (vgs_cons sc_cheapest_ways.nd rfl (Or.inl rfl) vgs_nil))) (vss_one (vs_if (vt_cmp (op_notInD2 (hu1 hr)) s_notInD (vv 10) (vv 3) (by rfl)) (vss_one (vs_hpush 4 (hu65 hr) (by rfl) T.h_heappush (ve_tup (va_cons (ve_op op_addA s_add (vv 5) (ve_ix ix_seq s_ix (vv 2) (vv 9) (fun _ _ => rfl))) (va_cons (ve_op op_addA s_add (vv 6) ve_int) (va_cons (ve_op op_addA s_add (vv 7) (ve_tup (va_cons (vv 9) va_nil))) (va_cons (vv 10) va_nil))))))) vss_nil))))) vss_nil))))
    (vss_one (vs_retv 3))))))
abbrev s_price_certificate : Stmt := topS 8
abbrev n_price_certificate : List Str := ["task", "registers", "prices", "ways", "price", "bounds", "configuration", "_", "later", "pairs"]
theorem sc_price_certificate : FnScope n_price_certificate ["task", "registers", "prices"] (defScope s_price_certificate) := ⟨rfl, rfl, rfl, by decide +kernel, rfl, by decide +kernel, by decide +kernel⟩
theorem ok_price_certificate (T : Txt K mg a__law_cell a__law_draw a__law_task a__law_prices a_is_possible a_moved a_transitions a_cheapest_ways a_price_certificate a__law_can a__law_moved a__law_costs a__law_price_paper a_law) {fd_cheapest_ways : FuncData} (G_cheapest_ways : FnOk P w K mg base (L2.CX P w) 3 a_cheapest_ways fd_cheapest_ways ["task", "registers", "prices"] (spV K ca 3 F_cheapest_ways)) (b_cheapest_ways : Binds K fd_cheapest_ways ["task", "registers", "prices"] []) {fd_transitions : FuncData} (G_transitions : FnOk P w K mg base (L2.CX P w) 2 a_transitions fd_transitions ["task", "configuration", "registers"] (spV K ca 3 F_transitions)) (b_transitions : Binds K fd_transitions ["task", "configuration", "registers"] []) {fd : FuncData} (F : Fun K "price_certificate" "price_certificate" s_price_certificate a_price_certificate fd) : FnOk P w K mg base (L2.CX P w) 4 a_price_certificate fd ["task", "registers", "prices"] (spV K ca 3 F_price_certificate) :=
  fn_ok (k := 3) (N := n_price_certificate) (body := B_price_certificate) F sc_price_certificate (fun cdv A outer s H E hr tk hp =>
    (vss_cons (vs_set (i := 3) sc_price_certificate.nd rfl (Or.inl rfl) (ve_call G_cheapest_ways (hr.mono (by decide)) (by rfl) T.g_cheapest_ways T.k_cheapest_ways b_cheapest_ways tk (va_cons (vv 0) (va_cons (vv 1) (va_cons (vv 2) va_nil)))))
    (vss_cons (vs_set (i := 4) sc_price_certificate.nd rfl (Or.inl rfl) ve_non)
    (vss_cons (vs_if (vt_cmp (op_inD2 (hu1 hr)) s_inD (ve_ix ix_seq s_ix (vv 0) ve_int (fun _ _ => rfl)) (vv 3) (by rfl)) (vss_one (vs_set (i := 4) sc_price_certificate.nd rfl (Or.inl rfl) (ve_ix ix_seq s_ix (ve_ix (ix_d (hu1 hr)) s_ixD (vv 3) (ve_ix ix_seq s_ix (vv 0) ve_int (fun _ _ => rfl)) (fun _ _ => rfl)) ve_int (fun _ _ => rfl)))) vss_nil)
    (vss_cons (vs_set (i := 5) sc_price_certificate.nd rfl (Or.inr rfl) (ve_disp1 (hu1 hr) (ve_tup va_nil) ve_int))
    (vss_cons (vs_forD 3 hp rfl (vg_name sc_price_certificate.nd rfl (Or.inl rfl)) (vss_one (vs_if (vw (vw_or (vt_cmp op_isN s_is (vv 4) ve_non (nomark _)) (vw_or1 (vt_cmp op_lt s_lt (ve_ix ix_seq s_ix (ve_ix (ix_d (hu1 hr)) s_ixD (vv 3) (vv 6) (fun _ _ => rfl)) ve_int (fun _ _ => rfl)) (vv 4) (nomark _))))) (vss_one (vs_for hp rfl (vi_any (ve_call G_transitions (hr.mono (by decide)) (by rfl) T.g_transitions T.k_transitions b_transitions tk (va_cons (vv 0) (va_cons (vv 6) (va_cons (vv 1) va_nil))))) (vg_tup rfl (vgs_cons sc_price_certificate.nd rfl (Or.inl rfl) (vgs_cons sc_price_certificate.nd rfl (Or.inl rfl) vgs_nil))) (vss_cons (vs_storeA 5 (hu1 hr) (ve_ix ix_seq s_ix (ve_ix (ix_d (hu1 hr)) s_ixD (vv 3) (vv 8) (fun _ _ => rfl)) ve_int (fun _ _ => rfl)) (vv 8))
    (vss_one (vs_if (vt_cmp op_notN s_isNot (vv 4) ve_non (nomark _)) (vss_one (vs_storeA 5 (hu1 hr) (ve_callB (call_min2 rfl) c_min2 (by rfl) T.z_min (by decide +kernel) (va_cons (vv 4) (va_cons (ve_ix ix_seq s_ix (ve_ix (ix_d (hu1 hr)) s_ixD (vv 3) (vv 8) (fun _ _ => rfl)) ve_int (fun _ _ => rfl)) va_nil))) (vv 8))) vss_nil))))) vss_nil)))
    (vss_cons (vs_setLc (i := 9) (own := [("configuration", 6)]) rfl sc_price_certificate.nd rfl rfl (sw_true rfl rfl rfl (by decide +kernel)) (vj_any (ve_callB (cr_sortedO rfl (hu65 hr)) c_sortK (by rfl) T.z_sorted (by decide +kernel) (va_cons (vv 5) va_nil))) (blkOk_by (own := [("configuration", 6)]) (N := n_price_certificate) (sc := defScope s_price_certificate) (by decide +kernel)) (by decide) (fun _ _ _ _ _ => (vg_name sc_price_certificate.nd rfl (Or.inl rfl))) (fun _ _ _ _ _ => vts_nil) (fun _ _ _ _ _ => (ve_tup (va_cons (vv 6) (va_cons (ve_ix (ix_d (hu1 hr)) s_ixD (vv 5) (vv 6) (fun _ _ => rfl)) va_nil)))))
    (vss_one (vs_ret (ve_tup (va_cons (vv 1) (va_cons (vv 4) (va_cons (ve_callTy call_tupN c_tuple (by rfl) T.z_tuple (by decide +kernel) (va_cons (vv 9) va_nil)) va_nil)))))))))))))
abbrev s__law_can : Stmt := topS 13
abbrev n__law_can : List Str := ["_law_uses", "_law_held", "_law_step", "_law_used"]
theorem sc__law_can : FnScope n__law_can ["_law_uses", "_law_held", "_law_step"] (defScope s__law_can) := ⟨rfl, rfl, rfl, by decide +kernel, rfl, by decide +kernel, by decide +kernel⟩
theorem ok__law_can (T : Txt K mg a__law_cell a__law_draw a__law_task a__law_prices a_is_possible a_moved a_transitions a_cheapest_ways a_price_certificate a__law_can a__law_moved a__law_costs a__law_price_paper a_law) {fd : FuncData} (F : Fun K "_law_can" "_law_can" s__law_can a__law_can fd) : FnOk P w K mg base (L2.CX P w) 1 a__law_can fd ["_law_uses", "_law_held", "_law_step"] (spV K ca 3 F__law_can) :=
  fn_ok (k := 0) (N := n__law_can) (body := B__law_can) F sc__law_can (fun cdv A outer s H E hr tk hp =>
    (vss_one (vs_ret (ve_callB (cr_all rfl) c_all (by rfl) T.z_all (by decide +kernel) (va_cons (ve_lc (own := [("_law_used", 3)]) rfl sc__law_can.nd (vj_tup (ve_ix ix_seq s_ix (vv 0) (vv 2) (fun _ _ => rfl))) (blkOk_by (own := [("_law_used", 3)]) (N := n__law_can) (sc := defScope s__law_can) (by decide +kernel)) (by decide) (fun _ _ _ _ _ => (vg_name sc__law_can.nd rfl (Or.inl rfl))) (fun _ _ _ _ _ => vts_nil) (fun _ _ _ _ _ => (ve_cmp (op_inA (hu65 hr)) s_in (vv 3) (vv 1) (by rfl)))) va_nil)))))
abbrev s__law_moved : Stmt := topS 14
abbrev n__law_moved : List Str := ["_law_held", "_law_step", "_law_other"]
theorem sc__law_moved : FnScope n__law_moved ["_law_held", "_law_step"] (defScope s__law_moved) := ⟨rfl, rfl, rfl, by decide +kernel, rfl, by decide +kernel, by decide +kernel⟩
theorem ok__law_moved (T : Txt K mg a__law_cell a__law_draw a__law_task a__law_prices a_is_possible a_moved a_transitions a_cheapest_ways a_price_certificate a__law_can a__law_moved a__law_costs a__law_price_paper a_law) {fd : FuncData} (F : Fun K "_law_moved" "_law_moved" s__law_moved a__law_moved fd) : FnOk P w K mg base (L2.CX P w) 1 a__law_moved fd ["_law_held", "_law_step"] (spV K ca 2 F__law_moved) :=
  fn_ok (k := 0) (N := n__law_moved) (body := B__law_moved) F sc__law_moved (fun cdv A outer s H E hr tk hp =>
    (vss_cons (vs_if (vt_cmp (op_inA (hu65 hr)) s_in (vv 1) (vv 0) (by rfl)) (vss_one (vs_ret (ve_callTy call_tupN c_tuple (by rfl) T.z_tuple (by decide +kernel) (va_cons (ve_lc (own := [("_law_other", 2)]) rfl sc__law_moved.nd (vj_tup (vv 0)) (blkOk_by (own := [("_law_other", 2)]) (N := n__law_moved) (sc := defScope s__law_moved) (by decide +kernel)) (by decide) (fun _ _ _ _ _ => (vg_name sc__law_moved.nd rfl (Or.inl rfl))) (fun _ _ _ _ _ => (vts_one (vt_cmp (op_neD hr.units) s_ne (vv 2) (vv 1) (nomark _)))) (fun _ _ _ _ _ => (vv 2))) va_nil)))) vss_nil)
    (vss_one (vs_ret (ve_callTy call_tupN c_tuple (by rfl) T.z_tuple (by decide +kernel) (va_cons (ve_callB cr_sortedI c_sorted (by rfl) T.z_sorted (by decide +kernel) (va_cons (ve_op op_addA s_add (ve_callTy call_list_of c_list (by rfl) T.z_list (by decide +kernel) (va_cons (vv 0) va_nil)) (ve_lst (va_cons (vv 1) va_nil))) va_nil)) va_nil))))))
abbrev s__law_costs : Stmt := topS 15
abbrev n__law_costs : List Str := ["_law_uses", "_law_registers", "_law_prices_here", "_law_goal", "_law_costs_here", "_law_waiting", "_law_at", "_law_here", "_law_step", "_law_there", "_law_cost"]
theorem sc__law_costs : FnScope n__law_costs ["_law_uses", "_law_registers", "_law_prices_here", "_law_goal"] (defScope s__law_costs) := ⟨rfl, rfl, rfl, by decide +kernel, rfl, by decide +kernel, by decide +kernel⟩
theorem ok__law_costs (T : Txt K mg a__law_cell a__law_draw a__law_task a__law_prices a_is_possible a_moved a_transitions a_cheapest_ways a_price_certificate a__law_can a__law_moved a__law_costs a__law_price_paper a_law) {fd__law_can : FuncData} (G__law_can : FnOk P w K mg base (L2.CX P w) 1 a__law_can fd__law_can ["_law_uses", "_law_held", "_law_step"] (spV K ca 3 F__law_can)) (b__law_can : Binds K fd__law_can ["_law_uses", "_law_held", "_law_step"] []) {fd__law_moved : FuncData} (G__law_moved : FnOk P w K mg base (L2.CX P w) 1 a__law_moved fd__law_moved ["_law_held", "_law_step"] (spV K ca 2 F__law_moved)) (b__law_moved : Binds K fd__law_moved ["_law_held", "_law_step"] []) {fd : FuncData} (F : Fun K "_law_costs" "_law_costs" s__law_costs a__law_costs fd) : FnOk P w K mg base (L2.CX P w) 2 a__law_costs fd ["_law_uses", "_law_registers", "_law_prices_here", "_law_goal"] (spV K ca 4 F__law_costs) :=
  fn_ok (k := 1) (N := n__law_costs) (body := B__law_costs) F sc__law_costs (fun cdv A outer s H E hr tk hp =>
    (vss_cons (vs_set (i := 4) sc__law_costs.nd rfl (Or.inl rfl) ve_dnewT)
    (vss_cons (vs_if (vt_cmp op_le s_le (ve_callB call_lenA c_len (by rfl) T.z_len (by decide +kernel) (va_cons (vv 3) va_nil)) (vv 1) (nomark _)) (vss_one (vs_storeA 4 (hu1 hr) (ve_tup (va_cons ve_int (va_cons ve_int va_nil))) (vv 3))) vss_nil)
    (vss_cons (vs_set (i := 5) sc__law_costs.nd rfl (Or.inl rfl) (ve_callTy (call_listO rfl) c_listK (by rfl) T.z_list (by decide +kernel) (va_cons (vv 4) va_nil)))
    (vss_cons (vs_set (i := 6) sc__law_costs.nd rfl (Or.inl rfl) ve_int)
    (vss_cons (vs_while 100000 hp (vt_cmp op_lt s_lt (vv 6) (ve_callB call_lenA c_len (by rfl) T.z_len (by decide +kernel) (va_cons (vv 5) va_nil)) (nomark _)) (vss_cons (vs_set (i := 7) sc__law_costs.nd rfl (Or.inl rfl) (ve_ix ix_seq s_ix (vv 5) (vv 6) (fun _ _ => rfl)))
    (vss_cons (vs_set (i := 6) sc__law_costs.nd rfl (Or.inl rfl) (ve_op op_addA s_add (vv 6) ve_int))
    (vss_one (vs_for hp rfl (vi_range1 (by rfl) T.z_range (va_cons (ve_callB call_lenA c_len (by rfl) T.z_len (by decide +kernel) (va_cons (vv 0) va_nil)) va_nil)) (vg_name sc__law_costs.nd rfl (Or.inl rfl)) (vss_one (vs_if (vt_val (ve_call G__law_can (hr.mono (by decide)) (by rfl) T.g__law_can T.k__law_can b__law_can tk (va_cons (vv 0) (va_cons (vv 7) (va_cons (vv 8) va_nil))))) (vss_cons (vs_set (i := 9) sc__law_costs.nd rfl (Or.inl rfl) (ve_call G__law_moved (hr.mono (by decide)) (by rfl) T.g__law_moved T.k__law_moved b__law_moved tk (va_cons (vv 7) (va_cons (vv 8) va_nil))))
    (vss_cons (vs_set (i := 10) sc__law_costs.nd rfl (Or.inl rfl) (ve_tup (va_cons (ve_op op_addA s_add (ve_ix ix_seq s_ix (ve_ix (ix_d (hu1 hr)) s_ixD (vv 4) (vv 7) (fun _ _ => rfl)) ve_int (fun _ _ => rfl)) (ve_ix ix_seq s_ix (vv 2) (vv 8) (fun _ _ => rfl))) (va_cons (ve_op op_addA s_add (ve_ix ix_seq s_ix (ve_ix (ix_d (hu1 hr)) s_ixD (vv 4) (vv 7) (fun _ _ => rfl)) ve_int (fun _ _ => rfl)) ve_int) va_nil))))
    (vss_one (vs_if (vw (vw_and (vt_cmp op_le s_le (ve_callB call_lenA c_len (by rfl) T.z_len (by decide +kernel) (va_cons (vv 9) va_nil)) (vv 1) (nomark _)) (vw_and1 (vw (vw_or (vt_cmp (op_notInD2 (hu1 hr)) s_notInD (vv 9) (vv 4) (by rfl)) (vw_or1 (vt_cmp (op_ltD (hu65 hr)) s_ltD (vv 10) (ve_ix (ix_d (hu1 hr)) s_ixD (vv 4) (vv 9) (fun _ _ => rfl)) (nomark _)))))))) (vss_cons (vs_storeA 4 (hu1 hr) (vv 10) (vv 9))
    (vss_one (vs_fz 9 (vs_app 5 (vv 9))))) vss_nil)))) vss_nil)))))))
    (vss_one (vs_retv 4))))))))
abbrev s__law_price_paper : Stmt := topS 17
abbrev n__law_price_paper : List Str := ["_law_uses", "_law_targets", "_law_registers", "_law_prices_here", "_law_costs_here", "_law_price", "_law_listed", "_law_here", "_law_step", "_law_there", "_law_held"]
theorem sc__law_price_paper : FnScope n__law_price_paper ["_law_uses", "_law_targets", "_law_registers", "_law_prices_here"] (defScope s__law_price_paper) := ⟨rfl, rfl, rfl, by decide +kernel, rfl, by decide +kernel, by decide +kernel⟩
theorem ok__law_price_paper (T : Txt K mg a__law_cell a__law_draw a__law_task a__law_prices a_is_possible a_moved a_transitions a_cheapest_ways a_price_certificate a__law_can a__law_moved a__law_costs a__law_price_paper a_law) {fd__law_costs : FuncData} (G__law_costs : FnOk P w K mg base (L2.CX P w) 2 a__law_costs fd__law_costs ["_law_uses", "_law_registers", "_law_prices_here", "_law_goal"] (spV K ca 4 F__law_costs)) (b__law_costs : Binds K fd__law_costs ["_law_uses", "_law_registers", "_law_prices_here", "_law_goal"] []) {fd__law_can : FuncData} (G__law_can : FnOk P w K mg base (L2.CX P w) 1 a__law_can fd__law_can ["_law_uses", "_law_held", "_law_step"] (spV K ca 3 F__law_can)) (b__law_can : Binds K fd__law_can ["_law_uses", "_law_held", "_law_step"] []) {fd__law_moved : FuncData} (G__law_moved : FnOk P w K mg base (L2.CX P w) 1 a__law_moved fd__law_moved ["_law_held", "_law_step"] (spV K ca 2 F__law_moved)) (b__law_moved : Binds K fd__law_moved ["_law_held", "_law_step"] []) {fd : FuncData} (F : Fun K "_law_price_paper" "_law_price_paper" s__law_price_paper a__law_price_paper fd) : FnOk P w K mg base (L2.CX P w) 3 a__law_price_paper fd ["_law_uses", "_law_targets", "_law_registers", "_law_prices_here"] (spV K ca 4 F__law_price_paper) :=
  fn_ok (k := 2) (N := n__law_price_paper) (body := B__law_price_paper) F sc__law_price_paper (fun cdv A outer s H E hr tk hp =>
    (vss_cons (vs_set (i := 4) sc__law_price_paper.nd rfl (Or.inl rfl) (ve_call G__law_costs (hr.mono (by decide)) (by rfl) T.g__law_costs T.k__law_costs b__law_costs tk (va_cons (vv 0) (va_cons (vv 2) (va_cons (vv 3) (va_cons (ve_tup va_nil) va_nil))))))
    (vss_cons (vs_set (i := 5) sc__law_price_paper.nd rfl (Or.inl rfl) ve_non)
    (vss_cons (vs_if (vt_cmp (op_inD2 (hu1 hr)) s_inD (vv 1) (vv 4) (by rfl)) (vss_one (vs_set (i := 5) sc__law_price_paper.nd rfl (Or.inl rfl) (ve_ix ix_seq s_ix (ve_ix (ix_d (hu1 hr)) s_ixD (vv 4) (vv 1) (fun _ _ => rfl)) ve_int (fun _ _ => rfl)))) vss_nil)
    (vss_cons (vs_set (i := 6) sc__law_price_paper.nd rfl (Or.inr rfl) ve_dnewT)
    (vss_cons (vs_storeA 6 (hu1 hr) ve_int (ve_tup va_nil))
    (vss_cons (vs_forD 4 hp rfl (vg_name sc__law_price_paper.nd rfl (Or.inl rfl)) (vss_one (vs_if (vw (vw_or (vt_cmp op_isN s_is (vv 5) ve_non (nomark _)) (vw_or1 (vt_cmp op_lt s_lt (ve_ix ix_seq s_ix (ve_ix (ix_d (hu1 hr)) s_ixD (vv 4) (vv 7) (fun _ _ => rfl)) ve_int (fun _ _ => rfl)) (vv 5) (nomark _))))) (vss_one (vs_for hp rfl (vi_range1 (by rfl) T.z_range (va_cons (ve_callB call_lenA c_len (by rfl) T.z_len (by decide +kernel) (va_cons (vv 0) va_nil)) va_nil)) (vg_name sc__law_price_paper.nd rfl (Or.inl rfl)) (vss_one (vs_if (vt_val (ve_call G__law_can (hr.mono (by decide)) (by rfl) T.g__law_can T.k__law_can b__law_can tk (va_cons (vv 0) (va_cons (vv 7) (va_cons (vv 8) va_nil))))) (vss_cons (vs_set (i := 9) sc__law_price_paper.nd rfl (Or.inl rfl) (ve_call G__law_moved (hr.mono (by decide)) (by rfl) T.g__law_moved T.k__law_moved b__law_moved tk (va_cons (vv 7) (va_cons (vv 8) va_nil))))
    (vss_one (vs_if (vt_cmp op_le s_le (ve_callB call_lenA c_len (by rfl) T.z_len (by decide +kernel) (va_cons (vv 9) va_nil)) (vv 2) (nomark _)) (vss_cons (vs_storeA 6 (hu1 hr) (ve_ix ix_seq s_ix (ve_ix (ix_d (hu1 hr)) s_ixD (vv 4) (vv 9) (fun _ _ => rfl)) ve_int (fun _ _ => rfl)) (vv 9))
    (vss_one (vs_if (vt_cmp op_notN s_isNot (vv 5) ve_non (nomark _)) (vss_one (vs_storeA 6 (hu1 hr) (ve_callB (call_min2 rfl) c_min2 (by rfl) T.z_min (by decide +kernel) (va_cons (vv 5) (va_cons (ve_ix ix_seq s_ix (ve_ix (ix_d (hu1 hr)) s_ixD (vv 4) (vv 9) (fun _ _ => rfl)) ve_int (fun _ _ => rfl)) va_nil))) (vv 9))) vss_nil))) vss_nil))) vss_nil)))) vss_nil)))
    (vss_one (vs_ret (ve_tup (va_cons (vv 2) (va_cons (vv 5) (va_cons (ve_callTy call_tupN c_tuple (by rfl) T.z_tuple (by decide +kernel) (va_cons (ve_lc (own := [("_law_held", 10)]) rfl sc__law_price_paper.nd (vj_any (ve_callB (cr_sortedO rfl (hu65 hr)) c_sortK (by rfl) T.z_sorted (by decide +kernel) (va_cons (vv 6) va_nil))) (blkOk_by (own := [("_law_held", 10)]) (N := n__law_price_paper) (sc := defScope s__law_price_paper) (by decide +kernel)) (by decide) (fun _ _ _ _ _ => (vg_name sc__law_price_paper.nd rfl (Or.inl rfl))) (fun _ _ _ _ _ => vts_nil) (fun _ _ _ _ _ => (ve_tup (va_cons (vv 10) (va_cons (ve_ix (ix_d (hu1 hr)) s_ixD (vv 6) (vv 10) (fun _ _ => rfl)) va_nil))))) va_nil)) va_nil)))))))))))))
abbrev s_law : Stmt := topS 18
abbrev n_law : List Str := ["_law_script", "_law_w", "_law_given", "_law_uses", "_law_targets", "_law_registers", "_law_prices_here", "_law_told"]
theorem sc_law : FnScope n_law ["_law_script"] (defScope s_law) := ⟨rfl, rfl, rfl, by decide +kernel, rfl, by decide +kernel, by decide +kernel⟩
theorem ok_law (T : Txt K mg a__law_cell a__law_draw a__law_task a__law_prices a_is_possible a_moved a_transitions a_cheapest_ways a_price_certificate a__law_can a__law_moved a__law_costs a__law_price_paper a_law) {fd__law_task : FuncData} (G__law_task : FnOk P w K mg base (L2.CX P w) 3 a__law_task fd__law_task ["_law_script", "_law_at", "_law_most"] (spV K ca 3 F__law_task)) (b__law_task : Binds K fd__law_task ["_law_script", "_law_at", "_law_most"] []) {fd__law_draw : FuncData} (G__law_draw : FnOk P w K mg base (L2.CX P w) 2 a__law_draw fd__law_draw ["_law_script", "_law_k", "_law_sizes"] (spV K ca 3 F__law_draw)) (b__law_draw : Binds K fd__law_draw ["_law_script", "_law_k", "_law_sizes"] []) {fd__law_prices : FuncData} (G__law_prices : FnOk P w K mg base (L2.CX P w) 3 a__law_prices fd__law_prices ["_law_script", "_law_at", "_law_many"] (spV K ca 3 F__law_prices)) (b__law_prices : Binds K fd__law_prices ["_law_script", "_law_at", "_law_many"] []) {fd_price_certificate : FuncData} (G_price_certificate : FnOk P w K mg base (L2.CX P w) 4 a_price_certificate fd_price_certificate ["task", "registers", "prices"] (spV K ca 3 F_price_certificate)) (b_price_certificate : Binds K fd_price_certificate ["task", "registers", "prices"] []) {fd__law_price_paper : FuncData} (G__law_price_paper : FnOk P w K mg base (L2.CX P w) 3 a__law_price_paper fd__law_price_paper ["_law_uses", "_law_targets", "_law_registers", "_law_prices_here"] (spV K ca 4 F__law_price_paper)) (b__law_price_paper : Binds K fd__law_price_paper ["_law_uses", "_law_targets", "_law_registers", "_law_prices_here"] []) {fd : FuncData} (F : Fun K "law" "law" s_law a_law fd) : FnOk P w K mg base (L2.CX P w) 5 a_law fd ["_law_script"] (spV K ca 1 F_law) :=
  fn_ok (k := 4) (N := n_law) (body := B_law) F sc_law (fun cdv A outer s H E hr tk hp =>
    (vss_cons (vs_for hp rfl (vi_range1 (by rfl) T.z_range (va_cons (ve_callB (call_min2 rfl) c_min2 (by rfl) T.z_min (by decide +kernel) (va_cons ve_int (va_cons (ve_op op_addA s_add ve_int (ve_op op_fdiv s_div (ve_callB call_lenA c_len (by rfl) T.z_len (by decide +kernel) (va_cons (vv 0) va_nil)) ve_int)) va_nil))) va_nil)) (vg_name sc_law.nd rfl (Or.inl rfl)) (vss_cons (vs_set (i := 2) sc_law.nd rfl (Or.inl rfl) (ve_call G__law_task (hr.mono (by decide)) (by rfl) T.g__law_task T.k__law_task b__law_task tk (va_cons (vv 0) (va_cons (ve_op op_mul s_mul ve_int (vv 1)) (va_cons ve_int va_nil)))))
    (vss_cons (vs_fz 2 (vs_unp (vv 2) (vg_tup rfl (vgs_cons sc_law.nd rfl (Or.inl rfl) (vgs_cons sc_law.nd rfl (Or.inl rfl) vgs_nil)))))
    (vss_cons (vs_set (i := 5) sc_law.nd rfl (Or.inl rfl) (ve_op op_addA s_add ve_int (ve_ix ix_seq s_ix (ve_call G__law_draw (hr.mono (by decide)) (by rfl) T.g__law_draw T.k__law_draw b__law_draw tk (va_cons (vv 0) (va_cons (ve_op op_addA s_add (ve_op op_mul s_mul ve_int (vv 1)) ve_int) (va_cons (ve_lst (va_cons ve_int va_nil)) va_nil)))) ve_int (fun _ _ => rfl))))
    (vss_cons (vs_set (i := 6) sc_law.nd rfl (Or.inl rfl) (ve_call G__law_prices (hr.mono (by decide)) (by rfl) T.g__law_prices T.k__law_prices b__law_prices tk (va_cons (vv 0) (va_cons (ve_op op_addA s_add (ve_op op_mul s_mul ve_int (vv 1)) ve_int) (va_cons (ve_callB call_lenA c_len (by rfl) T.z_len (by decide +kernel) (va_cons (vv 3) va_nil)) va_nil)))))
    (vss_cons (vs_fz 6 (vs_fz 5 (vs_fz 2 (vs_set (i := 7) sc_law.nd rfl (Or.inl rfl) (ve_call G_price_certificate (hr.mono (by decide)) (by rfl) T.g_price_certificate T.k_price_certificate b_price_certificate tk (va_cons (vv 2) (va_cons (vv 5) (va_cons (vv 6) va_nil))))))))
    (vss_one (vs_fz 6 (vs_fz 5 (vs_if (vw (vw_or (vt_cmp (op_neD hr.units) s_ne (vv 7) (ve_call G__law_price_paper (hr.mono (by decide)) (by rfl) T.g__law_price_paper T.k__law_price_paper b__law_price_paper tk (va_cons (vv 3) (va_cons (vv 4) (va_cons (vv 5) (va_cons (vv 6) va_nil))))) (nomark _)) (vw_or (vt_not (vt_val (ve_isi (by rfl) T.z_isinstance (by rfl) T.z_tuple (by decide +kernel) (vv 7)))) (vw_or1 (vt_not (vt_val (ve_isi (by rfl) T.z_isinstance (by rfl) T.z_tuple (by decide +kernel) (ve_ix ix_seq s_ix (vv 7) ve_int (fun _ _ => rfl))))))))) (vss_one (vs_ret ve_bl)) vss_nil))))))))))
    (vss_one (vs_ret ve_bl))))
end
theorem all_mk {l : PySem.W.OpenLaw} {w : World} {K : PySem.W.Frag} {h : Heap} {mg : Str → Option Value} {fa a__law_cell a__law_draw a__law_task a__law_prices a_is_possible a_moved a_transitions a_cheapest_ways a_price_certificate a__law_can a__law_moved a__law_costs a__law_price_paper a_law : Addr} (X : K.In h) (G : h.Ns mainGlobals mg) (hfa : mg "law" = some (.ref fa))
    {od__law_cell an__law_cell od__law_draw an__law_draw od__law_task an__law_task od__law_prices an__law_prices od_is_possible an_is_possible od_moved an_moved od_transitions an_transitions od_cheapest_ways an_cheapest_ways od_price_certificate an_price_certificate od__law_can an__law_can od__law_moved an__law_moved od__law_costs an__law_costs od__law_price_paper an__law_price_paper od_law an_law : Option Addr} {sl__law_cell sl__law_draw sl__law_task sl__law_prices sl_is_possible sl_moved sl_transitions sl_cheapest_ways sl_price_certificate sl__law_can sl__law_moved sl__law_costs sl__law_price_paper sl_law : Array (Option Value)} {oc__law_cell kV__law_cell dc__law_cell pm__law_cell cd__law_cell ct__law_cell oc__law_draw kV__law_draw dc__law_draw pm__law_draw cd__law_draw ct__law_draw oc__law_task kV__law_task dc__law_task pm__law_task cd__law_task ct__law_task oc__law_prices kV__law_prices dc__law_prices pm__law_prices cd__law_prices ct__law_prices oc_is_possible kV_is_possible dc_is_possible pm_is_possible cd_is_possible ct_is_possible oc_moved kV_moved dc_moved pm_moved cd_moved ct_moved oc_transitions kV_transitions dc_transitions pm_transitions cd_transitions ct_transitions oc_cheapest_ways kV_cheapest_ways dc_cheapest_ways pm_cheapest_ways cd_cheapest_ways ct_cheapest_ways oc_price_certificate kV_price_certificate dc_price_certificate pm_price_certificate cd_price_certificate ct_price_certificate oc__law_can kV__law_can dc__law_can pm__law_can cd__law_can ct__law_can oc__law_moved kV__law_moved dc__law_moved pm__law_moved cd__law_moved ct__law_moved oc__law_costs kV__law_costs dc__law_costs pm__law_costs cd__law_costs ct__law_costs oc__law_price_paper kV__law_price_paper dc__law_price_paper pm__law_price_paper cd__law_price_paper ct__law_price_paper oc_law kV_law dc_law pm_law cd_law ct_law : Value}
    (p__law_cell : PySem.W.nsIn K mainGlobals "_law_cell" = some (some (.ref a__law_cell))) (l__law_cell : K.lookup a__law_cell = some ⟨oc__law_cell, od__law_cell, .func (PySem.W.fnOf "_law_cell" "_law_cell" (defArgs s__law_cell) (defBody s__law_cell) (defScope s__law_cell) .none kV__law_cell dc__law_cell pm__law_cell an__law_cell cd__law_cell ct__law_cell), sl__law_cell⟩) (c__law_cell : PySem.W.codeIn K cd__law_cell "_law_cell" = true) (k__law_cell : PySem.W.keepIn K (.ref a__law_cell) = true)
    (p__law_draw : PySem.W.nsIn K mainGlobals "_law_draw" = some (some (.ref a__law_draw))) (l__law_draw : K.lookup a__law_draw = some ⟨oc__law_draw, od__law_draw, .func (PySem.W.fnOf "_law_draw" "_law_draw" (defArgs s__law_draw) (defBody s__law_draw) (defScope s__law_draw) .none kV__law_draw dc__law_draw pm__law_draw an__law_draw cd__law_draw ct__law_draw), sl__law_draw⟩) (c__law_draw : PySem.W.codeIn K cd__law_draw "_law_draw" = true) (k__law_draw : PySem.W.keepIn K (.ref a__law_draw) = true)
    (p__law_task : PySem.W.nsIn K mainGlobals "_law_task" = some (some (.ref a__law_task))) (l__law_task : K.lookup a__law_task = some ⟨oc__law_task, od__law_task, .func (PySem.W.fnOf "_law_task" "_law_task" (defArgs s__law_task) (defBody s__law_task) (defScope s__law_task) .none kV__law_task dc__law_task pm__law_task an__law_task cd__law_task ct__law_task), sl__law_task⟩) (c__law_task : PySem.W.codeIn K cd__law_task "_law_task" = true) (k__law_task : PySem.W.keepIn K (.ref a__law_task) = true)
    (p__law_prices : PySem.W.nsIn K mainGlobals "_law_prices" = some (some (.ref a__law_prices))) (l__law_prices : K.lookup a__law_prices = some ⟨oc__law_prices, od__law_prices, .func (PySem.W.fnOf "_law_prices" "_law_prices" (defArgs s__law_prices) (defBody s__law_prices) (defScope s__law_prices) .none kV__law_prices dc__law_prices pm__law_prices an__law_prices cd__law_prices ct__law_prices), sl__law_prices⟩) (c__law_prices : PySem.W.codeIn K cd__law_prices "_law_prices" = true) (k__law_prices : PySem.W.keepIn K (.ref a__law_prices) = true)
    (p_is_possible : PySem.W.nsIn K mainGlobals "is_possible" = some (some (.ref a_is_possible))) (l_is_possible : K.lookup a_is_possible = some ⟨oc_is_possible, od_is_possible, .func (PySem.W.fnOf "is_possible" "is_possible" (defArgs s_is_possible) (defBody s_is_possible) (defScope s_is_possible) .none kV_is_possible dc_is_possible pm_is_possible an_is_possible cd_is_possible ct_is_possible), sl_is_possible⟩) (c_is_possible : PySem.W.codeIn K cd_is_possible "is_possible" = true) (k_is_possible : PySem.W.keepIn K (.ref a_is_possible) = true)
    (p_moved : PySem.W.nsIn K mainGlobals "moved" = some (some (.ref a_moved))) (l_moved : K.lookup a_moved = some ⟨oc_moved, od_moved, .func (PySem.W.fnOf "moved" "moved" (defArgs s_moved) (defBody s_moved) (defScope s_moved) .none kV_moved dc_moved pm_moved an_moved cd_moved ct_moved), sl_moved⟩) (c_moved : PySem.W.codeIn K cd_moved "moved" = true) (k_moved : PySem.W.keepIn K (.ref a_moved) = true)
    (p_transitions : PySem.W.nsIn K mainGlobals "transitions" = some (some (.ref a_transitions))) (l_transitions : K.lookup a_transitions = some ⟨oc_transitions, od_transitions, .func (PySem.W.fnOf "transitions" "transitions" (defArgs s_transitions) (defBody s_transitions) (defScope s_transitions) .none kV_transitions dc_transitions pm_transitions an_transitions cd_transitions ct_transitions), sl_transitions⟩) (c_transitions : PySem.W.codeIn K cd_transitions "transitions" = true) (k_transitions : PySem.W.keepIn K (.ref a_transitions) = true)
    (p_cheapest_ways : PySem.W.nsIn K mainGlobals "cheapest_ways" = some (some (.ref a_cheapest_ways))) (l_cheapest_ways : K.lookup a_cheapest_ways = some ⟨oc_cheapest_ways, od_cheapest_ways, .func (PySem.W.fnOf "cheapest_ways" "cheapest_ways" (defArgs s_cheapest_ways) (defBody s_cheapest_ways) (defScope s_cheapest_ways) .none kV_cheapest_ways dc_cheapest_ways pm_cheapest_ways an_cheapest_ways cd_cheapest_ways ct_cheapest_ways), sl_cheapest_ways⟩) (c_cheapest_ways : PySem.W.codeIn K cd_cheapest_ways "cheapest_ways" = true) (k_cheapest_ways : PySem.W.keepIn K (.ref a_cheapest_ways) = true)
    (p_price_certificate : PySem.W.nsIn K mainGlobals "price_certificate" = some (some (.ref a_price_certificate))) (l_price_certificate : K.lookup a_price_certificate = some ⟨oc_price_certificate, od_price_certificate, .func (PySem.W.fnOf "price_certificate" "price_certificate" (defArgs s_price_certificate) (defBody s_price_certificate) (defScope s_price_certificate) .none kV_price_certificate dc_price_certificate pm_price_certificate an_price_certificate cd_price_certificate ct_price_certificate), sl_price_certificate⟩) (c_price_certificate : PySem.W.codeIn K cd_price_certificate "price_certificate" = true) (k_price_certificate : PySem.W.keepIn K (.ref a_price_certificate) = true)
    (p__law_can : PySem.W.nsIn K mainGlobals "_law_can" = some (some (.ref a__law_can))) (l__law_can : K.lookup a__law_can = some ⟨oc__law_can, od__law_can, .func (PySem.W.fnOf "_law_can" "_law_can" (defArgs s__law_can) (defBody s__law_can) (defScope s__law_can) .none kV__law_can dc__law_can pm__law_can an__law_can cd__law_can ct__law_can), sl__law_can⟩) (c__law_can : PySem.W.codeIn K cd__law_can "_law_can" = true) (k__law_can : PySem.W.keepIn K (.ref a__law_can) = true)
    (p__law_moved : PySem.W.nsIn K mainGlobals "_law_moved" = some (some (.ref a__law_moved))) (l__law_moved : K.lookup a__law_moved = some ⟨oc__law_moved, od__law_moved, .func (PySem.W.fnOf "_law_moved" "_law_moved" (defArgs s__law_moved) (defBody s__law_moved) (defScope s__law_moved) .none kV__law_moved dc__law_moved pm__law_moved an__law_moved cd__law_moved ct__law_moved), sl__law_moved⟩) (c__law_moved : PySem.W.codeIn K cd__law_moved "_law_moved" = true) (k__law_moved : PySem.W.keepIn K (.ref a__law_moved) = true)
    (p__law_costs : PySem.W.nsIn K mainGlobals "_law_costs" = some (some (.ref a__law_costs))) (l__law_costs : K.lookup a__law_costs = some ⟨oc__law_costs, od__law_costs, .func (PySem.W.fnOf "_law_costs" "_law_costs" (defArgs s__law_costs) (defBody s__law_costs) (defScope s__law_costs) .none kV__law_costs dc__law_costs pm__law_costs an__law_costs cd__law_costs ct__law_costs), sl__law_costs⟩) (c__law_costs : PySem.W.codeIn K cd__law_costs "_law_costs" = true) (k__law_costs : PySem.W.keepIn K (.ref a__law_costs) = true)
    (p__law_price_paper : PySem.W.nsIn K mainGlobals "_law_price_paper" = some (some (.ref a__law_price_paper))) (l__law_price_paper : K.lookup a__law_price_paper = some ⟨oc__law_price_paper, od__law_price_paper, .func (PySem.W.fnOf "_law_price_paper" "_law_price_paper" (defArgs s__law_price_paper) (defBody s__law_price_paper) (defScope s__law_price_paper) .none kV__law_price_paper dc__law_price_paper pm__law_price_paper an__law_price_paper cd__law_price_paper ct__law_price_paper), sl__law_price_paper⟩) (c__law_price_paper : PySem.W.codeIn K cd__law_price_paper "_law_price_paper" = true) (k__law_price_paper : PySem.W.keepIn K (.ref a__law_price_paper) = true)
    (p_law : PySem.W.nsIn K mainGlobals "law" = some (some (.ref a_law))) (l_law : K.lookup a_law = some ⟨oc_law, od_law, .func (PySem.W.fnOf "law" "law" (defArgs s_law) (defBody s_law) (defScope s_law) .none kV_law dc_law pm_law an_law cd_law ct_law), sl_law⟩) (c_law : PySem.W.codeIn K cd_law "law" = true) (k_law : PySem.W.keepIn K (.ref a_law) = true)
    (z_all : PySem.W.nsIn K mainGlobals "all" = some none)
    (z_isinstance : PySem.W.nsIn K mainGlobals "isinstance" = some none)
    (z_len : PySem.W.nsIn K mainGlobals "len" = some none)
    (z_list : PySem.W.nsIn K mainGlobals "list" = some none)
    (z_min : PySem.W.nsIn K mainGlobals "min" = some none)
    (z_range : PySem.W.nsIn K mainGlobals "range" = some none)
    (z_sorted : PySem.W.nsIn K mainGlobals "sorted" = some none)
    (z_tuple : PySem.W.nsIn K mainGlobals "tuple" = some none)
    (h_heappop : PySem.W.nsIn K mainGlobals "heappop" = some (some (.builtin "_heapq.heappop")))
    (h_heappush : PySem.W.nsIn K mainGlobals "heappush" = some (some (.builtin "_heapq.heappush"))) :
    ∃ fd : FuncData, (∀ (s : Shared) (v : Value), BindsTo s fd ⟨[v], []⟩ [("_law_script", v)]) ∧ ∀ base : Heap, K.In base → base.Ns mainGlobals mg → FnOk l.prog w K mg base (L2.CX l.prog w) 5 fa fd ["_law_script"] (spTrue K) := by
  have e := hfa.symm.trans (PySem.W.mg_of X G p_law)
  cases e
  have T : Txt K mg a__law_cell a__law_draw a__law_task a__law_prices a_is_possible a_moved a_transitions a_cheapest_ways a_price_certificate a__law_can a__law_moved a__law_costs a__law_price_paper fa := ⟨PySem.W.mg_of X G p__law_cell, k__law_cell, PySem.W.mg_of X G p__law_draw, k__law_draw, PySem.W.mg_of X G p__law_task, k__law_task, PySem.W.mg_of X G p__law_prices, k__law_prices, PySem.W.mg_of X G p_is_possible, k_is_possible, PySem.W.mg_of X G p_moved, k_moved, PySem.W.mg_of X G p_transitions, k_transitions, PySem.W.mg_of X G p_cheapest_ways, k_cheapest_ways, PySem.W.mg_of X G p_price_certificate, k_price_certificate, PySem.W.mg_of X G p__law_can, k__law_can, PySem.W.mg_of X G p__law_moved, k__law_moved, PySem.W.mg_of X G p__law_costs, k__law_costs, PySem.W.mg_of X G p__law_price_paper, k__law_price_paper, PySem.W.mg_of X G p_law, k_law, PySem.W.mg_none_of X G z_all, PySem.W.mg_none_of X G z_isinstance, PySem.W.mg_none_of X G z_len, PySem.W.mg_none_of X G z_list, PySem.W.mg_none_of X G z_min, PySem.W.mg_none_of X G z_range, PySem.W.mg_none_of X G z_sorted, PySem.W.mg_none_of X G z_tuple, PySem.W.mg_of X G h_heappop, PySem.W.mg_of X G h_heappush⟩
  have f__law_cell := fun_mk (st := s__law_cell) l__law_cell c__law_cell k__law_cell
  have b__law_cell := f__law_cell.binds (ps := ["_law_script", "_law_k"]) fun _ _ _ _ _ _ us hl => match us, hl with | [_, _], _ => rfl
  have f__law_draw := fun_mk (st := s__law_draw) l__law_draw c__law_draw k__law_draw
  have b__law_draw := f__law_draw.binds (ps := ["_law_script", "_law_k", "_law_sizes"]) fun _ _ _ _ _ _ us hl => match us, hl with | [_, _, _], _ => rfl
  have f__law_task := fun_mk (st := s__law_task) l__law_task c__law_task k__law_task
  have b__law_task := f__law_task.binds (ps := ["_law_script", "_law_at", "_law_most"]) fun _ _ _ _ _ _ us hl => match us, hl with | [_, _, _], _ => rfl
  have f__law_prices := fun_mk (st := s__law_prices) l__law_prices c__law_prices k__law_prices
  have b__law_prices := f__law_prices.binds (ps := ["_law_script", "_law_at", "_law_many"]) fun _ _ _ _ _ _ us hl => match us, hl with | [_, _, _], _ => rfl
  have f_is_possible := fun_mk (st := s_is_possible) l_is_possible c_is_possible k_is_possible
  have b_is_possible := f_is_possible.binds (ps := ["task", "configuration", "move"]) fun _ _ _ _ _ _ us hl => match us, hl with | [_, _, _], _ => rfl
  have f_moved := fun_mk (st := s_moved) l_moved c_moved k_moved
  have b_moved := f_moved.binds (ps := ["configuration", "move"]) fun _ _ _ _ _ _ us hl => match us, hl with | [_, _], _ => rfl
  have f_transitions := fun_mk (st := s_transitions) l_transitions c_transitions k_transitions
  have b_transitions := f_transitions.binds (ps := ["task", "configuration", "registers"]) fun _ _ _ _ _ _ us hl => match us, hl with | [_, _, _], _ => rfl
  have f_cheapest_ways := fun_mk (st := s_cheapest_ways) l_cheapest_ways c_cheapest_ways k_cheapest_ways
  have b_cheapest_ways := f_cheapest_ways.binds (ps := ["task", "registers", "prices"]) fun _ _ _ _ _ _ us hl => match us, hl with | [_, _, _], _ => rfl
  have f_price_certificate := fun_mk (st := s_price_certificate) l_price_certificate c_price_certificate k_price_certificate
  have b_price_certificate := f_price_certificate.binds (ps := ["task", "registers", "prices"]) fun _ _ _ _ _ _ us hl => match us, hl with | [_, _, _], _ => rfl
  have f__law_can := fun_mk (st := s__law_can) l__law_can c__law_can k__law_can
  have b__law_can := f__law_can.binds (ps := ["_law_uses", "_law_held", "_law_step"]) fun _ _ _ _ _ _ us hl => match us, hl with | [_, _, _], _ => rfl
  have f__law_moved := fun_mk (st := s__law_moved) l__law_moved c__law_moved k__law_moved
  have b__law_moved := f__law_moved.binds (ps := ["_law_held", "_law_step"]) fun _ _ _ _ _ _ us hl => match us, hl with | [_, _], _ => rfl
  have f__law_costs := fun_mk (st := s__law_costs) l__law_costs c__law_costs k__law_costs
  have b__law_costs := f__law_costs.binds (ps := ["_law_uses", "_law_registers", "_law_prices_here", "_law_goal"]) fun _ _ _ _ _ _ us hl => match us, hl with | [_, _, _, _], _ => rfl
  have f__law_price_paper := fun_mk (st := s__law_price_paper) l__law_price_paper c__law_price_paper k__law_price_paper
  have b__law_price_paper := f__law_price_paper.binds (ps := ["_law_uses", "_law_targets", "_law_registers", "_law_prices_here"]) fun _ _ _ _ _ _ us hl => match us, hl with | [_, _, _, _], _ => rfl
  have f_law := fun_mk (st := s_law) l_law c_law k_law
  refine ⟨PySem.W.fnOf "law" "law" (defArgs s_law) (defBody s_law) (defScope s_law) .none kV_law dc_law pm_law an_law cd_law ct_law, fun s v => .of_eq rfl, fun base _ _ => ?_⟩
  have G__law_cell := ok__law_cell (P := l.prog) (w := w) (base := base) (ca := (⟨fun _ => 0, []⟩ : CA)) T  f__law_cell
  have G__law_draw := ok__law_draw (P := l.prog) (w := w) (base := base) (ca := (⟨fun _ => 0, []⟩ : CA)) T G__law_cell b__law_cell f__law_draw
  have G__law_task := ok__law_task (P := l.prog) (w := w) (base := base) (ca := (⟨fun _ => 0, []⟩ : CA)) T G__law_draw b__law_draw f__law_task
  have G__law_prices := ok__law_prices (P := l.prog) (w := w) (base := base) (ca := (⟨fun _ => 0, []⟩ : CA)) T G__law_draw b__law_draw f__law_prices
  have G_is_possible := ok_is_possible (P := l.prog) (w := w) (base := base) (ca := (⟨fun _ => 0, []⟩ : CA)) T  f_is_possible
  have G_moved := ok_moved (P := l.prog) (w := w) (base := base) (ca := (⟨fun _ => 0, []⟩ : CA)) T  f_moved
  have G_transitions := ok_transitions (P := l.prog) (w := w) (base := base) (ca := (⟨fun _ => 0, []⟩ : CA)) T G_is_possible b_is_possible G_moved b_moved f_transitions
  have G_cheapest_ways := ok_cheapest_ways (P := l.prog) (w := w) (base := base) (ca := (⟨fun _ => 0, []⟩ : CA)) T G_transitions b_transitions f_cheapest_ways
  have G_price_certificate := ok_price_certificate (P := l.prog) (w := w) (base := base) (ca := (⟨fun _ => 0, []⟩ : CA)) T G_cheapest_ways b_cheapest_ways G_transitions b_transitions f_price_certificate
  have G__law_can := ok__law_can (P := l.prog) (w := w) (base := base) (ca := (⟨fun _ => 0, []⟩ : CA)) T  f__law_can
  have G__law_moved := ok__law_moved (P := l.prog) (w := w) (base := base) (ca := (⟨fun _ => 0, []⟩ : CA)) T  f__law_moved
  have G__law_costs := ok__law_costs (P := l.prog) (w := w) (base := base) (ca := (⟨fun _ => 0, []⟩ : CA)) T G__law_can b__law_can G__law_moved b__law_moved f__law_costs
  have G__law_price_paper := ok__law_price_paper (P := l.prog) (w := w) (base := base) (ca := (⟨fun _ => 0, []⟩ : CA)) T G__law_costs b__law_costs G__law_can b__law_can G__law_moved b__law_moved f__law_price_paper
  have G_law := ok_law (P := l.prog) (w := w) (base := base) (ca := (⟨fun _ => 0, []⟩ : CA)) T G__law_task b__law_task G__law_draw b__law_draw G__law_prices b__law_prices G_price_certificate b_price_certificate G__law_price_paper b__law_price_paper f_law
  exact G_law.imp fun vs H Q E h => law_true rfl law_holds vs H Q E h
end My
open PySem PySem.W PyProof.Rows
set_option maxHeartbeats 0 in
theorem PySem.Challenge.cw_tidyback_k22_price_certificates_holds : PySem.Challenge.rw_tidyback_k22_price_certificates.Holds := by
  w_on; o_law; k_head; (case hw => w_witness2)
  k_fill
  refine L2.walk_of (l := PySem.Challenge.rw_tidyback_k22_price_certificates) (n := 63) (k := 5) (x := "_law_script") (CX := fun w => L2.CX PySem.Challenge.rw_tidyback_k22_price_certificates.prog w) (sp := fun w => VL.spTrue _) rfl (by decide) rfl ⟨rfl, by decide, by decide⟩ (fun w h Y => PySem.W.kIn_of Y) ?F (fun _ _ a ns hl _ hS => ⟨a, ns, rfl, hS, hl, fun _ => rfl⟩) (fun _ _ _ _ _ h => by
    obtain ⟨_, _, _, _, _, _, _, _, _, _, _, _, z⟩ := h
    exact z)
  case F =>
    intro w mg fa h KX G hmg
    refine' My.all_mk KX G hmg ?p__law_cell ?l__law_cell ?c__law_cell ?k__law_cell ?p__law_draw ?l__law_draw ?c__law_draw ?k__law_draw ?p__law_task ?l__law_task ?c__law_task ?k__law_task ?p__law_prices ?l__law_prices ?c__law_prices ?k__law_prices ?p_is_possible ?l_is_possible ?c_is_possible ?k_is_possible ?p_moved ?l_moved ?c_moved ?k_moved ?p_transitions ?l_transitions ?c_transitions ?k_transitions ?p_cheapest_ways ?l_cheapest_ways ?c_cheapest_ways ?k_cheapest_ways ?p_price_certificate ?l_price_certificate ?c_price_certificate ?k_price_certificate ?p__law_can ?l__law_can ?c__law_can ?k__law_can ?p__law_moved ?l__law_moved ?c__law_moved ?k__law_moved ?p__law_costs ?l__law_costs ?c__law_costs ?k__law_costs ?p__law_price_paper ?l__law_price_paper ?c__law_price_paper ?k__law_price_paper ?p_law ?l_law ?c_law ?k_law ?z_all ?z_isinstance ?z_len ?z_list ?z_min ?z_range ?z_sorted ?z_tuple ?h_heappop ?h_heappush
    (case p__law_cell => k_is); (case l__law_cell => k_is); (case c__law_cell => k_is); (case k__law_cell => k_is); (case p__law_draw => k_is); (case l__law_draw => k_is); (case c__law_draw => k_is); (case k__law_draw => k_is); (case p__law_task => k_is); (case l__law_task => k_is); (case c__law_task => k_is); (case k__law_task => k_is); (case p__law_prices => k_is); (case l__law_prices => k_is); (case c__law_prices => k_is); (case k__law_prices => k_is); (case p_is_possible => k_is); (case l_is_possible => k_is); (case c_is_possible => k_is); (case k_is_possible => k_is); (case p_moved => k_is); (case l_moved => k_is); (case c_moved => k_is); (case k_moved => k_is); (case p_transitions => k_is); (case l_transitions => k_is); (case c_transitions => k_is); (case k_transitions => k_is); (case p_cheapest_ways => k_is); (case l_cheapest_ways => k_is); (case c_cheapest_ways => k_is); (case k_cheapest_ways => k_is); (case p_price_certificate => k_is); (case l_price_certificate => k_is); (case c_price_certificate => k_is); (case k_price_certificate => k_is); (case p__law_can => k_is); (case l__law_can => k_is); (case c__law_can => k_is); (case k__law_can => k_is); (case p__law_moved => k_is); (case l__law_moved => k_is); (case c__law_moved => k_is); (case k__law_moved => k_is); (case p__law_costs => k_is); (case l__law_costs => k_is); (case c__law_costs => k_is); (case k__law_costs => k_is); (case p__law_price_paper => k_is); (case l__law_price_paper => k_is); (case c__law_price_paper => k_is); (case k__law_price_paper => k_is); (case p_law => k_is); (case l_law => k_is); (case c_law => k_is); (case k_law => k_is); (case z_all => k_is); (case z_isinstance => k_is); (case z_len => k_is); (case z_list => k_is); (case z_min => k_is); (case z_range => k_is); (case z_sorted => k_is); (case z_tuple => k_is); (case h_heappop => k_is); (case h_heappush => k_is)
#print axioms PySem.Challenge.cw_tidyback_k22_price_certificates_holds
