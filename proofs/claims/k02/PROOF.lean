import PyProof.Rows.All
import Wide.All
import OpenK.AllK
import Wide.FinOn
import HandS.ForMost
import HandS.Exc
import HandS.TryOnly
import HandS.ExcOwn
import HandS.WordsExc
import HandS.CallSlots
import HandS.Deep
import HandS.TupAny
import HandS.SortInts
import HandS.Style
import HandS.IsInst
import HandS.Iter
import HandS.Defaults
import HandS.MakeKwOnly
import HandS.Dict
import KE.KDictDisplayH
import KE.KExcSuper
import HandS.ExcInit
import HandS.ExcField
import HandS.ExcSuper
import KE.KExcIs
import HandS.SortRule
import HandS.TupLe
import HandS.DictSubView
import KE.KDictWalk
import HandS.SetFor
import HandS.TupSets
import HandS.Strs
import HandS.Conv
import HandS.ReCall
import KE.KDictSum
import HandS.More
import HandS.Property
import HandS.IterVal
import HandS.OwnIter
import PyProof.EqKinds
import PyProof.IsiStr
import PyProof.IsiInt
import HandS.Flow
import HandS.AnyAll
import HandS.EndTab
import HandS.FStr
import PySem.Challenge.RW_tidyback_k02_faults_of_texts
set_option Elab.async false
set_option linter.all false
set_option maxRecDepth 100000
set_option maxHeartbeats 8000000
set_option pp.maxSteps 300
namespace VL
open PySem PySem.Spec PyProof.Rows L2
inductive Rs (α : Type) where
  | ok (a : α)
  | ex (c : Nat) (fs : List (Str × PyData))
  | no
def Rs.bind {α β : Type} : Rs α → (α → Rs β) → Rs β
  | .ok a, f => f a
  | .ex c fs, _ => .ex c fs
  | .no, _ => .no
@[simp] theorem Rs.bind_ok {α β : Type} (a : α) (f : α → Rs β) : (Rs.ok a).bind f = f a := rfl
@[simp] theorem Rs.bind_ex {α β : Type} (c fs) (f : α → Rs β) : (Rs.ex c fs : Rs α).bind f = .ex c fs := rfl
@[simp] theorem Rs.bind_no {α β : Type} (f : α → Rs β) : (Rs.no : Rs α).bind f = .no := rfl
structure CA where
  f : Nat → Addr
  T : List Addr
instance : CoeFun CA (fun _ => Nat → Addr) := ⟨CA.f⟩
inductive FV where
  | d (x : PyData)
  | ol (xs : List PyData)
inductive RV where
  | d (x : PyData)
  | ol (xs : List PyData) | bl (xs : List PyData)
  | od (kvs : List (Key × PyData)) | bd (kvs : List (Key × PyData))
  | ot (kvs : List (List Int × PyData)) | bt (kvs : List (List Int × PyData))
  | sc (ns : List Int)
  | xo (a dd : Addr) (c : Nat) (fs : List (Str × PyData))
  | t3 (x : PyData) (ys : List PyData) (kvs : List (Key × PyData))
  | fd (kvs : List (Key × PyData))
  | ob (me : Bool) (x : Str) (fs : List (Str × FV))
  | bo (x : Str) (fs : List (Str × FV))
abbrev VEnv := List (Option RV)
def NDT (K : PySem.W.Frag) (F : Hp) (a : Addr) : Prop := (∃ o u, F a = some (.frz o u) ∧ o.dict = none) ∨ ∃ o, K.lookup a = some o ∧ o.dict = none
def SqN (K : PySem.W.Frag) (F : Hp) (a : Addr) (xs : List V) : Prop := SqT K F a xs ∧ NDT K F a
mutual
inductive Dq (K : PySem.W.Frag) (F : Hp) : V → PyData → Prop
  | non : Dq K F .non .none
  | bl (b : Bool) : Dq K F (.bl b) (.bool b)
  | int (i : Int) : Dq K F (.int i) (.int i)
  | str (x : Str) : Dq K F (.str x) (.str x)
  | lst {a : Addr} {xs : List V} {ds : List PyData} : F a = some (.lst xs) → DqA K F xs ds → Dq K F (.ref a) (.list ds)
  | tup {a : Addr} {xs : List V} {ds : List PyData} : SqN K F a xs → DqA K F xs ds → Dq K F (.ref a) (.tuple ds)
inductive DqA (K : PySem.W.Frag) (F : Hp) : List V → List PyData → Prop
  | nil : DqA K F [] []
  | cons {v : V} {vs : List V} {d : PyData} {ds : List PyData} : Dq K F v d → DqA K F vs ds → DqA K F (v :: vs) (d :: ds)
end
theorem same_seqT {K : PySem.W.Frag} {H H' : Hp} {a : Addr} {xs : List V} (e : Same H H') (h : SqT K H a xs) : SqT K H' a xs := by
  rcases h with (h | ⟨o, h⟩) | h
  · exact .inl (.inl (e _ _ h))
  · exact .inl (.inr ⟨o, e _ _ h⟩)
  · exact .inr h
theorem same_seqN {K : PySem.W.Frag} {H H' : Hp} {a : Addr} {xs : List V} (e : Same H H') (h : SqN K H a xs) : SqN K H' a xs :=
  ⟨same_seqT e h.1, h.2.imp (fun ⟨o, u, h1, h2⟩ => ⟨o, u, e _ _ h1, h2⟩) id⟩
theorem SqN.frz {K : PySem.W.Frag} {H : Hp} {a : Addr} {xs : List V} {o : Obj} (n : o.dict = none) (h : H a = some (.frz o (.tup xs))) : SqN K H a xs := ⟨.inl (.inr ⟨o, h⟩), .inl ⟨o, _, h, n⟩⟩
mutual
theorem Dq.mono {K : PySem.W.Frag} {F F' : Hp} (e : Same F F') : ∀ (d : PyData) (v : V), Dq K F v d → Dq K F' v d
  | .none, _, h => by cases h; exact .non
  | .bool b, _, h => by cases h; exact .bl b
  | .int i, _, h => by cases h; exact .int i
  | .str x, _, h => by cases h; exact .str x
  | .list ds, _, h => by
    cases h with
    | lst h1 h2 => exact .lst (e _ _ h1) (DqA.mono e ds _ h2)
  | .tuple ds, _, h => by
    cases h with
    | tup h1 h2 => exact .tup (same_seqN e h1) (DqA.mono e ds _ h2)
  | .dict _, _, h => by cases h
theorem DqA.mono {K : PySem.W.Frag} {F F' : Hp} (e : Same F F') : ∀ (ds : List PyData) (vs : List V), DqA K F vs ds → DqA K F' vs ds
  | [], _, h => by cases h; exact .nil
  | d :: ds, _, h => by
    cases h with
    | cons h1 h2 => exact .cons (Dq.mono e d _ h1) (DqA.mono e ds _ h2)
end
mutual
theorem Dq.dp {K : PySem.W.Frag} {F : Hp} : ∀ (d : PyData) (v : V), Dq K F v d → Dp K F v d
  | .none, _, h => by cases h; exact .non
  | .bool b, _, h => by cases h; exact .bl b
  | .int i, _, h => by cases h; exact .int i
  | .str x, _, h => by cases h; exact .str x
  | .list ds, _, h => by
    cases h with
    | lst h1 h2 => exact .lst (SqL.of h1) (DqA.dp ds _ h2)
  | .tuple ds, _, h => by
    cases h with
    | tup h1 h2 => exact .tup h1.1 (DqA.dp ds _ h2)
  | .dict _, _, h => by cases h
theorem DqA.dp {K : PySem.W.Frag} {F : Hp} : ∀ (ds : List PyData) (vs : List V), DqA K F vs ds → DpAll K F vs ds
  | [], _, h => by cases h; exact .nil
  | d :: ds, _, h => by
    cases h with
    | cons h1 h2 => exact .cons (Dq.dp d _ h1) (DqA.dp ds _ h2)
end
theorem DqA.length {K : PySem.W.Frag} {F : Hp} : ∀ {ds : List PyData} {vs : List V}, DqA K F vs ds → vs.length = ds.length
  | [], _, h => by cases h; rfl
  | d :: ds, _, h => by
    cases h with
    | cons h1 h2 => simp [DqA.length h2]
theorem DqA.get {K : PySem.W.Frag} {F : Hp} : ∀ {ds : List PyData} {vs : List V} {i : Nat} {d : PyData}, DqA K F vs ds → ds[i]? = some d → ∃ v, vs[i]? = some v ∧ Dq K F v d
  | [], _, i, _, h, e => by simp at e
  | d :: ds, _, 0, x, h, e => by
    cases h with
    | cons h1 h2 => simp at e; subst e; exact ⟨_, rfl, h1⟩
  | d :: ds, _, i + 1, x, h, e => by
    cases h with
    | cons h1 h2 =>
      obtain ⟨v, q1, q2⟩ := DqA.get (i := i) h2 (by simpa using e)
      exact ⟨v, by simpa using q1, q2⟩
theorem DqA.get' {K : PySem.W.Frag} {F : Hp} : ∀ {ds : List PyData} {vs : List V} {i : Nat} {v : V}, DqA K F vs ds → vs[i]? = some v → ∃ d, ds[i]? = some d ∧ Dq K F v d
  | [], _, i, _, h, e => by cases h; simp at e
  | d :: ds, _, 0, x, h, e => by
    cases h with
    | cons h1 h2 => simp at e; subst e; exact ⟨_, rfl, h1⟩
  | d :: ds, _, i + 1, x, h, e => by
    cases h with
    | cons h1 h2 =>
      obtain ⟨v, q1, q2⟩ := DqA.get' (i := i) h2 (by simpa using e)
      exact ⟨v, by simpa using q1, q2⟩
theorem DqA.append {K : PySem.W.Frag} {F : Hp} : ∀ {ds es : List PyData} {vs ws : List V}, DqA K F vs ds → DqA K F ws es → DqA K F (vs ++ ws) (ds ++ es)
  | [], _, _, _, h, k => by cases h; exact k
  | d :: ds, _, _, _, h, k => by
    cases h with
    | cons h1 h2 => exact .cons h1 (DqA.append h2 k)
theorem DqA.take {K : PySem.W.Frag} {F : Hp} : ∀ {ds : List PyData} {vs : List V} (n : Nat), DqA K F vs ds → DqA K F (vs.take n) (ds.take n)
  | _, _, 0, _ => .nil
  | [], _, n + 1, h => by cases h; exact .nil
  | d :: ds, _, n + 1, h => by
    cases h with
    | cons h1 h2 => exact .cons h1 (DqA.take n h2)
theorem DqA.drop {K : PySem.W.Frag} {F : Hp} : ∀ {ds : List PyData} {vs : List V} (n : Nat), DqA K F vs ds → DqA K F (vs.drop n) (ds.drop n)
  | _, _, 0, h => h
  | [], _, n + 1, h => by cases h; exact .nil
  | d :: ds, _, n + 1, h => by
    cases h with
    | cons h1 h2 => exact DqA.drop n h2
theorem DqA.set {K : PySem.W.Frag} {F : Hp} {v : V} {d : PyData} (q : Dq K F v d) : ∀ {ds : List PyData} {vs : List V} (n : Nat), DqA K F vs ds → DqA K F (vs.set n v) (ds.set n d)
  | [], _, n, h => by cases h; exact .nil
  | _ :: ds, _, 0, h => by
    cases h with
    | cons h1 h2 => exact .cons q h2
  | _ :: ds, _, n + 1, h => by
    cases h with
    | cons h1 h2 => exact .cons h1 (DqA.set q n h2)
theorem DqA.of_ints {K : PySem.W.Frag} {F : Hp} : ∀ (ns : List Int), DqA K F (ns.map V.int) (ns.map PyData.int)
  | [] => .nil
  | i :: ns => .cons (.int i) (DqA.of_ints ns)
class NT (o : HO) : Prop where
  nt : ∀ ps, o ≠ .tbl ps
instance {xs} : NT (.lst xs) := ⟨fun _ z => by cases z⟩
instance {xs} : NT (.tup xs) := ⟨fun _ z => by cases z⟩
instance {xs} : NT (.dK xs) := ⟨fun _ z => by cases z⟩
instance {xs} : NT (.dT xs) := ⟨fun _ z => by cases z⟩
instance {S n} : NT (.set S n) := ⟨fun _ z => by cases z⟩
instance {C d f} : NT (.ins C d f) := ⟨fun _ z => by cases z⟩
instance {x} : NT (.own x) := ⟨fun _ z => by cases z⟩
instance {x} : NT (.xd x) := ⟨fun _ z => by cases z⟩
instance {f x} : NT (.met f x) := ⟨fun _ z => by cases z⟩
instance {f x} : NT (.rng f x) := ⟨fun _ z => by cases z⟩
instance {f x} : NT (.frz f x) := ⟨fun _ z => by cases z⟩
instance {f} : NT (.ext f) := ⟨fun _ z => by cases z⟩
structure Cfg (F H : Hp) : Prop where
  sub : Same F H
  tup : ∀ a xs, H a = some (.tup xs) → F a = some (.tup xs)
  nt : ∀ a ps, F a ≠ some (.tbl ps)
structure SameN (H H' : Hp) : Prop where
  st : ∀ a o, H a = some o → (∀ ps, o ≠ .tbl ps) → H' a = some o
  tb : ∀ a ps, H a = some (.tbl ps) → ∃ ps', H' a = some (.tbl ps') ∧ (TriplesOk ps.toList → TriplesOk ps'.toList)
instance {H H' : Hp} : CoeFun (SameN H H') (fun _ => ∀ a o [NT o], H a = some o → H' a = some o) := ⟨fun e => (fun a o [i : NT o] h => e.st a o h i.nt)⟩
theorem _root_.L2.Same.n {H H' : Hp} (e : Same H H') : SameN H H' := ⟨fun a o h _ => e a o h, fun a ps h => ⟨ps, e a _ h, id⟩⟩
theorem SameN.refl (H : Hp) : SameN H H := (Same.refl H).n
theorem SameN.trans {H H1 H2 : Hp} (a : SameN H H1) (b : SameN H1 H2) : SameN H H2 :=
  ⟨fun c o h nt => b.st c o (a.st c o h nt) nt, fun c ps h => by
    obtain ⟨p1, h1, t1⟩ := a.tb c ps h
    obtain ⟨p2, h2, t2⟩ := b.tb c p1 h1
    exact ⟨p2, h2, fun t => t2 (t1 t)⟩⟩
theorem SameN.free {H H' : Hp} (e : SameN H H') {a : Addr} (h : H' a = none) : H a = none := by
  cases q : H a with
  | none => rfl
  | some o =>
    by_cases t : ∃ ps, o = .tbl ps
    · obtain ⟨ps, rfl⟩ := t
      obtain ⟨ps', h2, _⟩ := e.tb a ps q
      rw [h] at h2; cases h2
    · have := e.st a o q fun ps z => t ⟨ps, z⟩
      rw [h] at this; cases this
theorem SameN.seq {K : PySem.W.Frag} {H H' : Hp} {a : Addr} {xs : List V} (e : SameN H H') (h : SqL K H a xs) : SqL K H' a xs := by
  rcases h with (h | ⟨o, h⟩) | h
  · exact .inl (.inl (e _ _ h))
  · exact .inl (.inr ⟨o, e _ _ h⟩)
  · exact .inr h
theorem SameN.seqT {K : PySem.W.Frag} {H H' : Hp} {a : Addr} {xs : List V} (e : SameN H H') (h : SqT K H a xs) : SqT K H' a xs := by
  rcases h with (h | ⟨o, h⟩) | h
  · exact .inl (.inl (e _ _ h))
  · exact .inl (.inr ⟨o, e _ _ h⟩)
  · exact .inr h
structure Grow (F H F' H' : Hp) : Prop where
  cfg : Cfg F' H'
  ff : Same F F'
  hh : SameN H H'
  nw : ∀ a o, F' a = some o → F a = some o ∨ H a = none
theorem Grow.refl {F H : Hp} (c : Cfg F H) : Grow F H F H := ⟨c, Same.refl _, SameN.refl _, fun _ _ h => .inl h⟩
theorem same_none {H H' : Hp} (e : Same H H') {a : Addr} (h : H' a = none) : H a = none := e.free h
theorem none_n {H H' : Hp} (e : SameN H H') {a : Addr} (h : H' a = none) : H a = none := e.free h
theorem Grow.table {F H : Hp} (c : Cfg F H) {P : Addr} {ps ps' : Array Value} (h : H P = some (.tbl ps)) (f : F P = none) (t : TriplesOk ps'.toList) : Grow F H F (upd H P (.tbl ps')) where
  cfg := ⟨fun b o e => by rw [upd_ne (show b ≠ P from fun z => by rw [z, f] at e; cases e)]; exact c.sub b o e, fun b xs e => by
    by_cases z : b = P
    · rw [z, upd_same] at e; cases e
    · rw [upd_ne z] at e; exact c.tup b xs e, c.nt⟩
  ff := Same.refl _
  hh := ⟨fun b o e nt => by
    by_cases z : b = P
    · rw [z, h] at e; exact absurd (Option.some.inj e).symm (nt ps)
    · rw [upd_ne z]; exact e, fun b qs e => by
    by_cases z : b = P
    · exact ⟨ps', by rw [z, upd_same], fun _ => t⟩
    · exact ⟨qs, by rw [upd_ne z]; exact e, id⟩⟩
  nw := fun _ _ e => .inl e
theorem Grow.trans {F H F1 H1 F2 H2 : Hp} (a : Grow F H F1 H1) (b : Grow F1 H1 F2 H2) : Grow F H F2 H2 :=
  ⟨b.cfg, a.ff.trans b.ff, a.hh.trans b.hh, fun x o h => by
    rcases b.nw x o h with h | h
    · exact a.nw x o h
    · exact .inr (none_n a.hh h)⟩
theorem Grow.stillFree {F H F' H' : Hp} (g : Grow F H F' H') {p : Addr} {o : HO} (f : F p = none) (h : H p = some o) : F' p = none := by
  cases q : F' p with
  | none => rfl
  | some u =>
    rcases g.nw p u q with z | z
    · rw [f] at z; cases z
    · rw [h] at z; cases z
theorem Grow.newF {F H : Hp} (c : Cfg F H) {p : Addr} (o : HO) [i : NT o] (n : H p = none) : Grow F H (upd F p o) (upd H p o) where
  cfg := ⟨fun b u h => by
      by_cases e : b = p
      · subst e; rw [upd_same] at h ⊢; exact h
      · rw [upd_ne e] at h ⊢; exact c.sub b u h, fun b xs h => by
      by_cases e : b = p
      · subst e; rw [upd_same] at h ⊢; exact h
      · rw [upd_ne e] at h ⊢; exact c.tup b xs h, fun b ps h => by
      by_cases e : b = p
      · subst e; rw [upd_same] at h; exact i.nt ps (Option.some.inj h)
      · rw [upd_ne e] at h; exact c.nt b ps h⟩
  ff := fun b u h => by rw [upd_ne (ne_of_none h (same_none c.sub n))]; exact h
  hh := Same.n fun b u h => by rw [upd_ne (ne_of_none h n)]; exact h
  nw := fun b u h => by
    by_cases e : b = p
    · subst e; exact .inr n
    · rw [upd_ne e] at h; exact .inl h
theorem Grow.newO {F H : Hp} (c : Cfg F H) {p : Addr} (o : HO) (n : H p = none) (nt : ∀ xs, o ≠ .tup xs) : Grow F H F (upd H p o) where
  cfg := ⟨fun b u h => by rw [upd_ne (ne_of_none (c.sub _ _ h) n)]; exact c.sub b u h, fun b xs h => by
      by_cases e : b = p
      · subst e; rw [upd_same] at h; exact absurd (Option.some.inj h) (nt xs)
      · rw [upd_ne e] at h; exact c.tup b xs h, c.nt⟩
  ff := Same.refl _
  hh := Same.n fun b u h => by rw [upd_ne (ne_of_none h n)]; exact h
  nw := fun _ _ h => .inl h
theorem Grow.freeze {F0 H0 F H : Hp} (g : Grow F0 H0 F H) {p : Addr} {o : HO} [i : NT o] (n0 : H0 p = none) (f : F p = none) (h : H p = some o) : Grow F0 H0 (upd F p o) H where
  cfg := ⟨fun b u q => by
      by_cases e : b = p
      · subst e; rw [upd_same] at q; cases q; exact h
      · rw [upd_ne e] at q; exact g.cfg.sub b u q, fun b xs q => by
      by_cases e : b = p
      · subst e; rw [q] at h; cases h; exact upd_same
      · rw [upd_ne e]; exact g.cfg.tup b xs q, fun b ps q => by
      by_cases e : b = p
      · subst e; rw [upd_same] at q; exact i.nt ps (Option.some.inj q)
      · rw [upd_ne e] at q; exact g.cfg.nt b ps q⟩
  ff := fun b u q => by
    have : b ≠ p := fun e => by subst e; rw [g.ff b u q] at f; cases f
    rw [upd_ne this]; exact g.ff b u q
  hh := g.hh
  nw := fun b u q => by
    by_cases e : b = p
    · subst e; exact .inr n0
    · rw [upd_ne e] at q; exact g.nw b u q
theorem Grow.write {F0 H0 F H : Hp} (g : Grow F0 H0 F H) {p : Addr} {o o' : HO} (n0 : H0 p = none) (f : F p = none) (h : H p = some o) (nt : ∀ xs, o' ≠ .tup xs) : Grow F0 H0 F (upd H p o') where
  cfg := ⟨fun b u q => by
      have : b ≠ p := fun e => by subst e; rw [q] at f; cases f
      rw [upd_ne this]; exact g.cfg.sub b u q, fun b xs q => by
      by_cases e : b = p
      · subst e; rw [upd_same] at q; exact absurd (Option.some.inj q) (nt xs)
      · rw [upd_ne e] at q; exact g.cfg.tup b xs q, g.cfg.nt⟩
  ff := g.ff
  hh := ⟨fun b u q nt => by
    have : b ≠ p := fun e => by subst e; rw [q] at n0; cases n0
    rw [upd_ne this]; exact g.hh.st b u q nt, fun b ps q => by
    have : b ≠ p := fun e => by subst e; rw [q] at n0; cases n0
    rw [upd_ne this]; exact g.hh.tb b ps q⟩
  nw := g.nw
def KD {κ : Type} (K : PySem.W.Frag) (F : Hp) : List (κ × V) → List (κ × PyData) → Prop := Paired fun (p : κ × V) (q : κ × PyData) => p.1 = q.1 ∧ Dq K F p.2 q.2
theorem KD.mono {κ : Type} {K : PySem.W.Frag} {F F' : Hp} (e : Same F F') {a : List (κ × V)} {b : List (κ × PyData)} (h : KD K F a b) : KD K F' a b :=
  Paired.mapP h fun _ _ z => ⟨z.1, z.2.mono e⟩
def hashT (ks : List Int) : Int := reduceHash (Builtin.Tuple.tupleHashOf (ks.map hashInt))
abbrev TX := Nat × List (List Int × Addr × Value)
def DTOk (d : Addr) (t : TX) (h : Heap) : Prop := ∃ o es, h.get? d = some o ∧ o.ExactDict ∧ o.data = .dict es t.1 ∧ es.toList = t.2.map (fun x => (⟨hashT x.1, .ref x.2.1, x.2.2⟩ : DictEntry)) ∧ (t.2.map (·.1)).Nodup ∧ t.2.length ≤ sizeLine ∧ (d == sysModules) = false
def DTO (d : Addr) (xs : TX) : HO := .ext (DTOk d xs)
def KTl (K : PySem.W.Frag) (F : Hp) : List (List Int × Addr × Value) → List (List Int × PyData) → Prop := Paired fun p q => p.1 = q.1 ∧ SqN K F p.2.1 (p.1.map V.int) ∧ ∃ v, RelV v p.2.2 ∧ Dq K F v q.2
def KTq (K : PySem.W.Frag) (F : Hp) (t : TX) (kvs : List (List Int × PyData)) : Prop := KTl K F t.2 kvs
theorem KTl.mono {K : PySem.W.Frag} {F F' : Hp} (e : Same F F') {a : List (List Int × Addr × Value)} {b : List (List Int × PyData)} (h : KTl K F a b) : KTl K F' a b :=
  Paired.mapP h fun _ _ z => ⟨z.1, same_seqN e z.2.1, z.2.2.choose, z.2.2.choose_spec.1, z.2.2.choose_spec.2.mono e⟩
theorem KTq.mono {K : PySem.W.Frag} {F F' : Hp} (e : Same F F') {a : TX} {b : List (List Int × PyData)} (h : KTq K F a b) : KTq K F' a b := KTl.mono e h
instance {d : Addr} {xs : TX} : NT (DTO d xs) := ⟨fun ps z => by
  have z' : HO.ext _ = HO.tbl ps := z
  cases z'⟩
def FVok (K : PySem.W.Frag) (H0 F H : Hp) (v : V) : FV → Prop
  | .d x => Dq K F v x
  | .ol xs => ∃ q ws, v = .ref q ∧ H0 q = none ∧ F q = none ∧ H q = some (.lst ws) ∧ DqA K F ws xs
def FVb (K : PySem.W.Frag) (F H : Hp) (v : V) : FV → Prop
  | .d x => Dq K F v x
  | .ol xs => ∃ q ws, v = .ref q ∧ H q = some (.lst ws) ∧ DqA K F ws xs
def FOk (K : PySem.W.Frag) (H0 F H : Hp) : List (Str × V) → List (Str × FV) → Prop := Paired fun a b => a.1 = b.1 ∧ FVok K H0 F H a.2 b.2
def FBk (K : PySem.W.Frag) (F H : Hp) : List (Str × V) → List (Str × FV) → Prop := Paired fun a b => a.1 = b.1 ∧ FVb K F H a.2 b.2
def lad : List (Str × V) → List (Str × FV) → List Addr
  | (_, .ref q) :: vs, (_, .ol _) :: fs => q :: lad vs fs
  | _ :: vs, _ :: fs => lad vs fs
  | _, _ => []
def fla (H : Hp) (p : Addr) (fs : List (Str × FV)) : List Addr := match H p with
  | some (.ins _ _ vs) => lad vs fs
  | _ => []
def ClsNm (K : PySem.W.Frag) (x : Str) (C : Addr) : Prop := PySem.W.nsIn K mainGlobals x = some (some (.ref C))
theorem fla_eq {H : Hp} {p C dx : Addr} {vs : List (Str × V)} (fs : List (Str × FV)) (h : H p = some (.ins C dx vs)) : fla H p fs = lad vs fs := by unfold fla; rw [h]
theorem FOk.at {K : PySem.W.Frag} {H0 F H : Hp} {q : Addr} : ∀ {vs : List (Str × V)} {fs : List (Str × FV)}, FOk K H0 F H vs fs → q ∈ lad vs fs → H0 q = none ∧ F q = none ∧ ∃ ws, H q = some (.lst ws)
  | _, _, .nil, h => by simp [lad] at h
  | (n, v) :: vs, (m, f) :: fs, .cons h1 h2, h => by
    cases f with
    | d x => cases v <;> exact FOk.at h2 (by simpa [lad] using h)
    | ol xs =>
      obtain ⟨_, a, ws, e, n0, f0, hq, _⟩ := h1
      have e : v = .ref a := e
      subst e
      simp only [lad, List.mem_cons] at h
      rcases h with rfl | h
      · exact ⟨n0, f0, ws, hq⟩
      · exact FOk.at h2 h
theorem FBk.at {K : PySem.W.Frag} {F H : Hp} {q : Addr} : ∀ {vs : List (Str × V)} {fs : List (Str × FV)}, FBk K F H vs fs → q ∈ lad vs fs → ∃ ws, H q = some (.lst ws)
  | _, _, .nil, h => by simp [lad] at h
  | (n, v) :: vs, (m, f) :: fs, .cons h1 h2, h => by
    cases f with
    | d x => cases v <;> exact FBk.at h2 (by simpa [lad] using h)
    | ol xs =>
      obtain ⟨_, a, ws, e, hq, _⟩ := h1
      have e : v = .ref a := e
      subst e
      simp only [lad, List.mem_cons] at h
      rcases h with rfl | h
      · exact ⟨ws, hq⟩
      · exact FBk.at h2 h
theorem FOk.to {K : PySem.W.Frag} {H0 F H H0' F' H' : Hp} (e : Same F F') : ∀ {vs : List (Str × V)} {fs : List (Str × FV)}, FOk K H0 F H vs fs → (∀ q ∈ lad vs fs, ∀ ws, H0 q = none → F q = none → H q = some (.lst ws) → H0' q = none ∧ F' q = none ∧ H' q = some (.lst ws)) → FOk K H0' F' H' vs fs
  | _, _, .nil, _ => .nil
  | (n, v) :: vs, (m, f) :: fs, .cons h1 h2, h => by
    refine .cons ⟨h1.1, ?_⟩ (FOk.to e h2 fun q hq => h q ?_)
    · cases f with
      | d x => exact Dq.mono e x v h1.2
      | ol xs =>
        obtain ⟨_, a, ws, ev, n0, f0, hq, dq⟩ := h1
        have ev : v = .ref a := ev
        subst ev
        obtain ⟨a1, a2, a3⟩ := h a (by simp [lad]) ws n0 f0 hq
        exact ⟨a, ws, rfl, a1, a2, a3, DqA.mono e _ _ dq⟩
    · cases f <;> cases v <;> first | exact hq | exact List.mem_cons_of_mem _ hq
theorem FBk.to {K : PySem.W.Frag} {F H F' H' : Hp} (e : Same F F') : ∀ {vs : List (Str × V)} {fs : List (Str × FV)}, FBk K F H vs fs → (∀ q ∈ lad vs fs, ∀ ws, H q = some (.lst ws) → H' q = some (.lst ws)) → FBk K F' H' vs fs
  | _, _, .nil, _ => .nil
  | (n, v) :: vs, (m, f) :: fs, .cons h1 h2, h => by
    refine .cons ⟨h1.1, ?_⟩ (FBk.to e h2 fun q hq => h q ?_)
    · cases f with
      | d x => exact Dq.mono e x v h1.2
      | ol xs =>
        obtain ⟨_, a, ws, ev, hq, dq⟩ := h1
        have ev : v = .ref a := ev
        subst ev
        exact ⟨a, ws, rfl, h a (by simp [lad]) ws hq, DqA.mono e _ _ dq⟩
    · cases f <;> cases v <;> first | exact hq | exact List.mem_cons_of_mem _ hq
theorem FOk.bor {K : PySem.W.Frag} {H0 F H : Hp} : ∀ {vs : List (Str × V)} {fs : List (Str × FV)}, FOk K H0 F H vs fs → FBk K F H vs fs
  | _, _, .nil => .nil
  | (n, v) :: vs, (m, f) :: fs, .cons h1 h2 => by
    refine .cons ⟨h1.1, ?_⟩ (FOk.bor h2)
    cases f with
    | d x => exact h1.2
    | ol xs => obtain ⟨_, a, ws, ev, _, _, hq, dq⟩ := h1; exact ⟨a, ws, ev, hq, dq⟩
def ObOk (K : PySem.W.Frag) (H0 F H : Hp) (p : Addr) (x : Str) (fs : List (Str × FV)) : Prop := ∃ C dx vs, ClsNm K x C ∧ H p = some (.ins C dx vs) ∧ H0 p = none ∧ F p = none ∧ FOk K H0 F H vs fs ∧ (lad vs fs).Nodup
theorem ObOk.to {K : PySem.W.Frag} {H0 F H H0' F' H' : Hp} {p : Addr} {x : Str} {fs : List (Str × FV)} (h : ObOk K H0 F H p x fs) (e : Same F F') (n0 : H0' p = none) (f0 : F' p = none) (hp : H' p = H p)
    (hq : ∀ q ∈ fla H p fs, ∀ ws, H0 q = none → F q = none → H q = some (.lst ws) → H0' q = none ∧ F' q = none ∧ H' q = some (.lst ws)) : ObOk K H0' F' H' p x fs := by
  obtain ⟨C, dx, vs, c, h1, _, _, fo, nd⟩ := h
  exact ⟨C, dx, vs, c, hp.trans h1, n0, f0, fo.to e (by rw [fla_eq fs h1] at hq; exact hq), nd⟩
theorem ObOk.at {K : PySem.W.Frag} {H0 F H : Hp} {p q : Addr} {x : Str} {fs : List (Str × FV)} (h : ObOk K H0 F H p x fs) (hq : q ∈ fla H p fs) : H0 q = none ∧ F q = none ∧ ∃ ws, H q = some (.lst ws) := by
  obtain ⟨C, dx, vs, c, h1, _, _, fo, nd⟩ := h
  rw [fla_eq fs h1] at hq
  exact fo.at hq
def BoOk (K : PySem.W.Frag) (F H : Hp) (p : Addr) (x : Str) (fs : List (Str × FV)) : Prop := ∃ C dx vs, ClsNm K x C ∧ H p = some (.ins C dx vs) ∧ FBk K F H vs fs
theorem BoOk.to {K : PySem.W.Frag} {F H F' H' : Hp} {p : Addr} {x : Str} {fs : List (Str × FV)} (h : BoOk K F H p x fs) (e : Same F F') (hp : H' p = H p) (hq : ∀ q ∈ fla H p fs, ∀ ws, H q = some (.lst ws) → H' q = some (.lst ws)) : BoOk K F' H' p x fs := by
  obtain ⟨C, dx, vs, c, h1, fo⟩ := h
  exact ⟨C, dx, vs, c, hp.trans h1, fo.to e (by rw [fla_eq fs h1] at hq; exact hq)⟩
theorem BoOk.at {K : PySem.W.Frag} {F H : Hp} {p q : Addr} {x : Str} {fs : List (Str × FV)} (h : BoOk K F H p x fs) (hq : q ∈ fla H p fs) : ∃ ws, H q = some (.lst ws) := by
  obtain ⟨C, dx, vs, c, h1, fo⟩ := h
  rw [fla_eq fs h1] at hq
  exact fo.at hq
theorem ObOk.bo {K : PySem.W.Frag} {H0 F H : Hp} {p : Addr} {x : Str} {fs : List (Str × FV)} (h : ObOk K H0 F H p x fs) : BoOk K F H p x fs := by
  obtain ⟨C, dx, vs, c, h1, _, _, fo, nd⟩ := h
  exact ⟨C, dx, vs, c, h1, fo.bor⟩
theorem ObOk.ins {K : PySem.W.Frag} {H0 F H : Hp} {p : Addr} {x : Str} {fs : List (Str × FV)} (h : ObOk K H0 F H p x fs) : ∃ C dx vs, H p = some (.ins C dx vs) := by
  obtain ⟨C, dx, vs, c, h1, _⟩ := h
  exact ⟨C, dx, vs, h1⟩
theorem BoOk.ins {K : PySem.W.Frag} {F H : Hp} {p : Addr} {x : Str} {fs : List (Str × FV)} (h : BoOk K F H p x fs) : ∃ C dx vs, H p = some (.ins C dx vs) := by
  obtain ⟨C, dx, vs, c, h1, _⟩ := h
  exact ⟨C, dx, vs, h1⟩
def RVok (K : PySem.W.Frag) (H0 F H : Hp) (v : V) : RV → Prop
  | .d x => Dq K F v x
  | .ol xs => ∃ p vs, v = .ref p ∧ H0 p = none ∧ F p = none ∧ H p = some (.lst vs) ∧ DqA K F vs xs
  | .bl xs => ∃ p vs, v = .ref p ∧ H p = some (.lst vs) ∧ DqA K F vs xs
  | .od xs => ∃ p vs, v = .ref p ∧ H0 p = none ∧ F p = none ∧ H p = some (.dK vs) ∧ KD K F vs xs
  | .bd xs => ∃ p vs, v = .ref p ∧ Rd H p (.dK vs) ∧ KD K F vs xs
  | .ot xs => ∃ p vs, v = .ref p ∧ H0 p = none ∧ F p = none ∧ H p = some (DTO p vs) ∧ KTq K F vs xs
  | .bt xs => ∃ p vs, v = .ref p ∧ H p = some (DTO p vs) ∧ KTq K F vs xs
  | .sc ns => ∃ a, v = .ref a ∧ SqL K F a (ns.map V.int)
  | .xo a dd _ fs => v = .ref a ∧ ∃ xs, H dd = some (.xd xs) ∧ KD K F xs fs
  | .t3 x ys kvs => ∃ p w l d vs us, v = .ref p ∧ SqT K F p [w, .ref l, .ref d] ∧ Dq K F w x ∧ (F l = some (.lst vs) ∧ DqA K F vs ys) ∧ (∃ o, F d = some (.frz o (.dK us))) ∧ KD K F us kvs
  | .fd kvs => ∃ p us, v = .ref p ∧ (∃ o, F p = some (.frz o (.dK us))) ∧ KD K F us kvs
  | .ob _ x fs => ∃ p, v = .ref p ∧ ObOk K H0 F H p x fs
  | .bo x fs => ∃ p, v = .ref p ∧ BoOk K F H p x fs
theorem t3_mono {K : PySem.W.Frag} {H0 F H H0' F' H' : Hp} {v : V} {x : PyData} {ys : List PyData} {kvs : List (Key × PyData)} (e : Same F F') (h : RVok K H0 F H v (.t3 x ys kvs)) : RVok K H0' F' H' v (.t3 x ys kvs) := by
  obtain ⟨p, w, l, d, vs, us, ev, s, qw, ⟨hl, ql⟩, ⟨o, hd⟩, qd⟩ := h
  exact ⟨p, w, l, d, vs, us, ev, same_seqT e s, Dq.mono e x w qw, ⟨e _ _ hl, DqA.mono e _ _ ql⟩, ⟨o, e _ _ hd⟩, qd.mono e⟩
theorem fd_mono {K : PySem.W.Frag} {H0 F H H0' F' H' : Hp} {v : V} {kvs : List (Key × PyData)} (e : Same F F') (h : RVok K H0 F H v (.fd kvs)) : RVok K H0' F' H' v (.fd kvs) := by
  obtain ⟨p, us, ev, ⟨o, hd⟩, qd⟩ := h
  exact ⟨p, us, ev, ⟨o, e _ _ hd⟩, qd.mono e⟩
theorem fla_grow {H H' : Hp} (e : SameN H H') {p : Addr} (fs : List (Str × FV)) (h : ∃ C dx vs, H p = some (.ins C dx vs)) : fla H' p fs = fla H p fs := by
  obtain ⟨C, dx, vs, h⟩ := h
  rw [fla_eq fs h, fla_eq fs (e _ _ h)]
theorem ObOk.grow {K : PySem.W.Frag} {H0 F H F' H' : Hp} {p : Addr} {x : Str} {fs : List (Str × FV)} (h : ObOk K H0 F H p x fs) (g : Grow F H F' H') : ObOk K H0 F' H' p x fs := by
  have h' := h
  obtain ⟨C, dx, vs, c, h1, n0, f0, _⟩ := h'
  exact h.to g.ff n0 (g.stillFree f0 h1) ((g.hh _ _ h1).trans h1.symm) fun q _ ws n f e => ⟨n, g.stillFree f e, g.hh _ _ e⟩
theorem BoOk.grow {K : PySem.W.Frag} {F H F' H' : Hp} {p : Addr} {x : Str} {fs : List (Str × FV)} (h : BoOk K F H p x fs) (ff : Same F F') (hh : SameN H H') : BoOk K F' H' p x fs := by
  have h' := h
  obtain ⟨C, dx, vs, c, h1, _⟩ := h'
  exact h.to ff ((hh _ _ h1).trans h1.symm) fun q _ ws e => hh _ _ e
theorem RVok.grow {K : PySem.W.Frag} {H0 F H F' H' : Hp} {v : V} {r : RV} (h : RVok K H0 F H v r) (g : Grow F H F' H') : RVok K H0 F' H' v r := by
  cases r with
  | d x => exact Dq.mono g.ff x v h
  | ol xs => obtain ⟨p, vs, e, n0, f, hp, q⟩ := h; exact ⟨p, vs, e, n0, g.stillFree f hp, g.hh _ _ hp, DqA.mono g.ff _ _ q⟩
  | bl xs => obtain ⟨p, vs, e, hp, q⟩ := h; exact ⟨p, vs, e, g.hh _ _ hp, DqA.mono g.ff _ _ q⟩
  | od xs => obtain ⟨p, vs, e, n0, f, hp, q⟩ := h; exact ⟨p, vs, e, n0, g.stillFree f hp, g.hh _ _ hp, q.mono g.ff⟩
  | bd xs => obtain ⟨p, vs, e, hp, q⟩ := h; exact ⟨p, vs, e, hp.imp (g.hh _ _) (fun ⟨o, z⟩ => ⟨o, g.hh _ _ z⟩), q.mono g.ff⟩
  | ot xs => obtain ⟨p, vs, e, n0, f, hp, q⟩ := h; exact ⟨p, vs, e, n0, g.stillFree f hp, g.hh _ _ hp, q.mono g.ff⟩
  | bt xs => obtain ⟨p, vs, e, hp, q⟩ := h; exact ⟨p, vs, e, g.hh _ _ hp, q.mono g.ff⟩
  | sc ns => obtain ⟨a, e, q⟩ := h; exact ⟨a, e, g.ff.seq q⟩
  | xo a dd c fs => obtain ⟨e, xs, hp, q⟩ := h; exact ⟨e, xs, g.hh _ _ hp, q.mono g.ff⟩
  | t3 x ys kvs => exact t3_mono g.ff h
  | fd kvs => exact fd_mono g.ff h
  | ob me x fs => obtain ⟨p, e, h⟩ := h; exact ⟨p, e, h.grow g⟩
  | bo x fs => obtain ⟨p, e, h⟩ := h; exact ⟨p, e, h.grow g.ff g.hh⟩
theorem RVok.older {K : PySem.W.Frag} {H0 H1 F H : Hp} {v : V} {r : RV} (h : RVok K H1 F H v r) (e : SameN H0 H1) : RVok K H0 F H v r := by
  cases r with
  | ol xs => obtain ⟨p, vs, e1, n0, q⟩ := h; exact ⟨p, vs, e1, none_n e n0, q⟩
  | od xs => obtain ⟨p, vs, e1, n0, q⟩ := h; exact ⟨p, vs, e1, none_n e n0, q⟩
  | ot xs => obtain ⟨p, vs, e1, n0, q⟩ := h; exact ⟨p, vs, e1, none_n e n0, q⟩
  | ob me x fs =>
    obtain ⟨p, ev, h⟩ := h
    have h' := h
    obtain ⟨C, dx, vs, c, h1, n0, f0, _⟩ := h'
    exact ⟨p, ev, h.to (Same.refl _) (none_n e n0) f0 rfl fun q _ ws n f eq => ⟨none_n e n, f, eq⟩⟩
  | _ => exact h
def RV.own : RV → Bool
  | .ol _ | .od _ | .ot _ | .ob _ _ _ => true
  | _ => false
def RV.isB : RV → Bool
  | .bl _ | .bd _ | .bt _ | .bo _ _ => true
  | _ => false
def RV.bor : RV → RV
  | .ol xs => .bl xs
  | .od xs => .bd xs
  | .ot xs => .bt xs
  | .ob _ x fs => .bo x fs
  | r => r
theorem RVok.bor {K : PySem.W.Frag} {H0 F H : Hp} {v : V} {r : RV} (h : RVok K H0 F H v r) : RVok K H0 F H v r.bor := by
  cases r with
  | ol xs => obtain ⟨p, vs, e1, n0, f, q⟩ := h; exact ⟨p, vs, e1, q⟩
  | od xs => obtain ⟨p, vs, e1, n0, f, hp, q⟩ := h; exact ⟨p, vs, e1, .inl hp, q⟩
  | ot xs => obtain ⟨p, vs, e1, n0, f, q⟩ := h; exact ⟨p, vs, e1, q⟩
  | ob me x fs => obtain ⟨p, e1, h⟩ := h; exact ⟨p, e1, h.bo⟩
  | _ => exact h
structure Base where
  F : Hp
  H : Hp
  me : Addr := 0
def TabOk (T : List Addr) (F H : Hp) : Prop := ∀ P ∈ T, F P = none ∧ ∃ ps : Array Value, H P = some (.tbl ps) ∧ TriplesOk ps.toList
theorem TabOk.grow {T : List Addr} {F H F' H' : Hp} (h : TabOk T F H) (g : Grow F H F' H') : TabOk T F' H' := fun P hP => by
  obtain ⟨f0, ps, hp, t⟩ := h P hP
  obtain ⟨ps', hp', t'⟩ := g.hh.tb P ps hp
  exact ⟨g.stillFree f0 hp, ps', hp', t' t⟩
theorem TabOk.to {T : List Addr} {F H F' H' : Hp} (h : TabOk T F H) (hf : ∀ P ps, F P = none → H P = some (.tbl ps) → F' P = none ∧ H' P = H P) : TabOk T F' H' := fun P hP => by
  obtain ⟨f0, ps, hp, t⟩ := h P hP
  obtain ⟨a, b⟩ := hf P ps f0 hp
  exact ⟨a, ps, b.trans hp, t⟩
structure Rg (ca : CA) (B : Base) (F : Hp) (env : VEnv) (σ : L2.St) (H : Hp) : Prop where
  tb : TabOk ca.T F H
  o1 : ∀ (i j : Nat) (p q : Addr) (me : Bool) (x : Str) (fs : List (Str × FV)) (r : RV), env[i]? = some (some (.ob me x fs)) → σ[i]? = some (some (.ref p)) → q ∈ fla H p fs → env[j]? = some (some r) → r.own = true → σ[j]? ≠ some (some (.ref q))
  o2 : ∀ (i j : Nat) (p p' q : Addr) (me me' : Bool) (x x' : Str) (fs fs' : List (Str × FV)), i ≠ j → env[i]? = some (some (.ob me x fs)) → σ[i]? = some (some (.ref p)) → env[j]? = some (some (.ob me' x' fs')) → σ[j]? = some (some (.ref p')) → q ∈ fla H p fs → q ∉ fla H p' fs'
  o3 : ∀ (i : Nat) (p q : Addr) (x : Str) (fs : List (Str × FV)), env[i]? = some (some (.bo x fs)) → σ[i]? = some (some (.ref p)) → q ∈ fla H p fs → ∃ o, B.H q = some o
  me : ∀ (i : Nat) (x : Str) (fs : List (Str × FV)), env[i]? = some (some (.ob true x fs)) → σ[i]? = some (some (.ref B.me))
structure StOk (K : PySem.W.Frag) (ca : CA) (B : Base) (F : Hp) (env : VEnv) (σ : L2.St) (H : Hp) : Prop where
  gr : Grow B.F B.H F H
  len : env.length = σ.length
  sl : ∀ (i : Nat) (r : RV), env[i]? = some (some r) → ∃ v, σ[i]? = some (some v) ∧ RVok K B.H F H v r
  bo : ∀ (i : Nat) (r : RV) (p : Addr), env[i]? = some (some r) → r.isB = true → σ[i]? = some (some (.ref p)) → ∃ o, B.H p = some o
  dis : ∀ (i j : Nat) (r r' : RV) (p : Addr), i ≠ j → env[i]? = some (some r) → env[j]? = some (some r') → r.own = true → r'.own = true → σ[i]? = some (some (.ref p)) → σ[j]? ≠ some (some (.ref p))
  rg : Rg ca B F env σ H
theorem StOk.obAt {K : PySem.W.Frag} {B : Base} {F H : Hp} {env : VEnv} {σ : L2.St} (s : StOk K ca B F env σ H) {i : Nat} {p : Addr} {me : Bool} {x : Str} {fs : List (Str × FV)} (e : env[i]? = some (some (.ob me x fs))) (z : σ[i]? = some (some (.ref p))) : ObOk K B.H F H p x fs := by
  obtain ⟨v, e1, p', ev, h⟩ := s.sl i _ e
  rw [z] at e1
  subst ev
  cases e1
  exact h
theorem StOk.boAt {K : PySem.W.Frag} {B : Base} {F H : Hp} {env : VEnv} {σ : L2.St} (s : StOk K ca B F env σ H) {i : Nat} {p : Addr} {x : Str} {fs : List (Str × FV)} (e : env[i]? = some (some (.bo x fs))) (z : σ[i]? = some (some (.ref p))) : BoOk K F H p x fs := by
  obtain ⟨v, e1, p', ev, h⟩ := s.sl i _ e
  rw [z] at e1
  subst ev
  cases e1
  exact h
theorem StOk.rgTo {K : PySem.W.Frag} {B : Base} {F H F' H' : Hp} {env : VEnv} {σ : L2.St} (s : StOk K ca B F env σ H) (tb : TabOk ca.T F' H') (hp : ∀ (i : Nat) (p C dx : Addr) (vs : List (Str × V)) (r : RV), env[i]? = some (some r) → σ[i]? = some (some (.ref p)) → (r.own = true ∨ r.isB = true) → H p = some (.ins C dx vs) → H' p = H p) : Rg ca B F' env σ H' := by
  have eo : ∀ {i : Nat} {p : Addr} {me : Bool} {x : Str} {fs : List (Str × FV)}, env[i]? = some (some (.ob me x fs)) → σ[i]? = some (some (.ref p)) → fla H' p fs = fla H p fs := fun e z => by
    obtain ⟨C, dx, vs, hi⟩ := (s.obAt e z).ins
    unfold fla
    rw [hp _ _ _ _ _ _ e z (.inl rfl) hi]
  have eb : ∀ {i : Nat} {p : Addr} {x : Str} {fs : List (Str × FV)}, env[i]? = some (some (.bo x fs)) → σ[i]? = some (some (.ref p)) → fla H' p fs = fla H p fs := fun e z => by
    obtain ⟨C, dx, vs, hi⟩ := (s.boAt e z).ins
    unfold fla
    rw [hp _ _ _ _ _ _ e z (.inr rfl) hi]
  exact ⟨tb, fun i j p q me x fs r e z hq => s.rg.o1 i j p q me x fs r e z (by rw [← eo e z]; exact hq),
    fun i j p p' q me me' x x' fs fs' ij e z e' z' hq hq' => s.rg.o2 i j p p' q me me' x x' fs fs' ij e z e' z' (by rw [← eo e z]; exact hq) (by rw [← eo e' z']; exact hq'),
    fun i p q x fs e z hq => s.rg.o3 i p q x fs e z (by rw [← eb e z]; exact hq), s.rg.me⟩
theorem StOk.rgGrow {K : PySem.W.Frag} {B : Base} {F H F' H' : Hp} {env : VEnv} {σ : L2.St} (s : StOk K ca B F env σ H) (g : Grow F H F' H') : Rg ca B F' env σ H' :=
  s.rgTo (s.rg.tb.grow g) fun _ _ _ _ _ _ _ _ _ h => (g.hh _ _ h).trans h.symm
theorem StOk.grow {K : PySem.W.Frag} {B : Base} {F H F' H' : Hp} {env : VEnv} {σ : L2.St} (s : StOk K ca B F env σ H) (g : Grow F H F' H') : StOk K ca B F' env σ H' :=
  ⟨s.gr.trans g, s.len, fun i r e => by
    obtain ⟨v, e1, h⟩ := s.sl i r e
    exact ⟨v, e1, h.grow g⟩, s.bo, s.dis, s.rgGrow g⟩
theorem StOk.cfg {K : PySem.W.Frag} {B : Base} {F H : Hp} {env : VEnv} {σ : L2.St} (s : StOk K ca B F env σ H) : Cfg F H := s.gr.cfg
section
variable (K : PySem.W.Frag) (ca : CA)
def ExOk (F H : Hp) (cls : Value) (dx : Option Addr) (c : Nat) (fs : List (Str × PyData)) : Prop :=
  cls = .ref (ca c) ∧ ∃ dd xs, dx = some dd ∧ H dd = some (.xd xs) ∧ KD K F xs fs
def PostX (W : WX) (σ : L2.St) (F H : Hp) (c : Nat) (fs : List (Str × PyData)) : Prop :=
  ∀ F' H' cls dx, Grow F H F' H' → ExOk K ca F' H' cls dx c fs → W cls dx σ H'
def PostE (W : WX) (σ : L2.St) (F H : Hp) (Q : VK) : Rs RV → Prop
  | .ok r => ∀ F' H' v, Grow F H F' H' → RVok K H F' H' v r → Q v H'
  | .ex c fs => PostX K ca W σ F H c fs
  | .no => False
def PostB (W : WX) (σ : L2.St) (F H : Hp) (Q : Bool → Hp → Prop) : Rs Bool → Prop
  | .ok b => ∀ F' H', Grow F H F' H' → Q b H'
  | .ex c fs => PostX K ca W σ F H c fs
  | .no => False
def PostA (W : WX) (σ : L2.St) (F H : Hp) (Q : List V → Hp → Prop) : Rs (List RV) → Prop
  | .ok rs => ∀ F' H' vs, Grow F H F' H' → Paired (fun v r => RVok K H F' H' v r) vs rs → Q vs H'
  | .ex c fs => PostX K ca W σ F H c fs
  | .no => False
def SndE (W : WX) (t : TE) (f : VEnv → Rs RV) : Prop := ∀ B F env σ H Q, StOk K ca B F env σ H → PostE K ca W σ F H Q (f env) → t σ H Q
def SndT (W : WX) (t : TT) (f : VEnv → Rs Bool) : Prop := ∀ B F env σ H Q, StOk K ca B F env σ H → PostB K ca W σ F H Q (f env) → t σ H Q
def SndA (W : WX) (t : TA) (f : VEnv → Rs (List RV)) : Prop := ∀ B F env σ H Q, StOk K ca B F env σ H → PostA K ca W σ F H Q (f env) → t σ H Q
end
section
variable {K : PySem.W.Frag} {ca : CA} {W : WX} {B : Base} {F H F1 H1 : Hp} {env : VEnv} {σ : L2.St}
theorem PostX.mono {c : Nat} {fs : List (Str × PyData)} (g : Grow F H F1 H1) (h : PostX K ca W σ F H c fs) : PostX K ca W σ F1 H1 c fs :=
  fun F' H' cls dx g' e => h F' H' cls dx (g.trans g') e
theorem PostE.mono {Q : VK} {m : Rs RV} (g : Grow F H F1 H1) (h : PostE K ca W σ F H Q m) : PostE K ca W σ F1 H1 Q m := by
  cases m with
  | ok r => exact fun F' H' v g' e => h F' H' v (g.trans g') (e.older g.hh)
  | ex c fs => exact PostX.mono g h
  | no => exact h
theorem PostB.mono {Q : Bool → Hp → Prop} {m : Rs Bool} (g : Grow F H F1 H1) (h : PostB K ca W σ F H Q m) : PostB K ca W σ F1 H1 Q m := by
  cases m with
  | ok r => exact fun F' H' g' => h F' H' (g.trans g')
  | ex c fs => exact PostX.mono g h
  | no => exact h
theorem paired_older {K : PySem.W.Frag} {H0 H1 F H : Hp} (e : SameN H0 H1) {vs : List V} {rs : List RV} (h : Paired (fun v r => RVok K H1 F H v r) vs rs) : Paired (fun v r => RVok K H0 F H v r) vs rs :=
  Paired.mapP h fun _ _ z => z.older e
theorem PostA.mono {Q : List V → Hp → Prop} {m : Rs (List RV)} (g : Grow F H F1 H1) (h : PostA K ca W σ F H Q m) : PostA K ca W σ F1 H1 Q m := by
  cases m with
  | ok r => exact fun F' H' v g' e => h F' H' v (g.trans g') (paired_older g.hh e)
  | ex c fs => exact PostX.mono g h
  | no => exact h
theorem seqE {t : TE} {f : VEnv → Rs RV} {Q : VK} {α : Type} {k : RV → Rs α} (P : Rs α → Prop) (s : SndE K ca W t f) (st : StOk K ca B F env σ H)
    (post : P ((f env).bind k)) (hx : ∀ c fs, P (.ex c fs) → PostX K ca W σ F H c fs) (hn : ¬ P .no)
    (h : ∀ r F1 H1 v, P (k r) → Grow F H F1 H1 → RVok K H F1 H1 v r → Q v H1) : t σ H Q := by
  refine s B F env σ H Q st ?_
  cases e : f env with
  | ok r => rw [e] at post; exact fun F' H' v g q => h r F' H' v post g q
  | ex c fs => rw [e] at post; exact hx c fs post
  | no => rw [e] at post; exact hn post
theorem seqT {t : TT} {f : VEnv → Rs Bool} {Q : Bool → Hp → Prop} {α : Type} {k : Bool → Rs α} (P : Rs α → Prop) (s : SndT K ca W t f) (st : StOk K ca B F env σ H)
    (post : P ((f env).bind k)) (hx : ∀ c fs, P (.ex c fs) → PostX K ca W σ F H c fs) (hn : ¬ P .no)
    (h : ∀ r F1 H1, P (k r) → Grow F H F1 H1 → Q r H1) : t σ H Q := by
  refine s B F env σ H Q st ?_
  cases e : f env with
  | ok r => rw [e] at post; exact fun F' H' g => h r F' H' post g
  | ex c fs => rw [e] at post; exact hx c fs post
  | no => rw [e] at post; exact hn post
theorem seqA {t : TA} {f : VEnv → Rs (List RV)} {Q : List V → Hp → Prop} {α : Type} {k : List RV → Rs α} (P : Rs α → Prop) (s : SndA K ca W t f) (st : StOk K ca B F env σ H)
    (post : P ((f env).bind k)) (hx : ∀ c fs, P (.ex c fs) → PostX K ca W σ F H c fs) (hn : ¬ P .no)
    (h : ∀ r F1 H1 vs, P (k r) → Grow F H F1 H1 → Paired (fun v r => RVok K H F1 H1 v r) vs r → Q vs H1) : t σ H Q := by
  refine s B F env σ H Q st ?_
  cases e : f env with
  | ok r => rw [e] at post; exact fun F' H' v g q => h r F' H' v post g q
  | ex c fs => rw [e] at post; exact hx c fs post
  | no => rw [e] at post; exact hn post
end
structure VE (ca : CA) (W : WX) (X : Cx) (e : Expr) (f : VEnv → Rs RV) : Prop where
  ex : ∃ t, PE X e t ∧ SndE X.K ca W t f
structure VT (ca : CA) (W : WX) (X : Cx) (e : Expr) (f : VEnv → Rs Bool) : Prop where
  ex : ∃ t, PT X e t ∧ SndT X.K ca W t f
structure VW (ca : CA) (W : WX) (X : Cx) (e : Expr) (f : VEnv → Rs Bool) : Prop where
  ex : ∃ t, PW X e t ∧ SndT X.K ca W t f
structure VA (ca : CA) (W : WX) (X : Cx) (es : List Expr) (f : VEnv → Rs (List RV)) : Prop where
  ex : ∃ t, PA X es t ∧ SndA X.K ca W t f
section
variable {ca : CA} {W : WX} {X : Cx} {a b e : Expr} {es : List Expr} {fa fb : VEnv → Rs RV} {pos : Pos}
def cC (x : PyData) : VEnv → Rs RV := fun _ => .ok (.d x)
theorem ve_int {i j pos} : VE ca W X (.Constant (.int i) j pos) (cC (.int i)) := ⟨_, pe_int, fun _ _ _ _ _ _ st p => p _ _ _ (Grow.refl st.cfg) (.int i)⟩
theorem ve_bl {b j pos} : VE ca W X (.Constant (.bool b) j pos) (cC (.bool b)) := ⟨_, pe_bl, fun _ _ _ _ _ _ st p => p _ _ _ (Grow.refl st.cfg) (.bl b)⟩
theorem ve_non {j pos} : VE ca W X (.Constant .none j pos) (cC .none) := ⟨_, pe_non, fun _ _ _ _ _ _ st p => p _ _ _ (Grow.refl st.cfg) .non⟩
theorem ve_str {x j pos} : VE ca W X (.Constant (.str x) j pos) (cC (.str x)) := ⟨_, pe_str, fun _ _ _ _ _ _ st p => p _ _ _ (Grow.refl st.cfg) (.str x)⟩
def cV (i : Nat) : VEnv → Rs RV := fun env => match env[i]? with
  | some (some r) => .ok r.bor
  | _ => .no
theorem snd_var {K : PySem.W.Frag} {i : Nat} : SndE K ca W (tVar i) (cV i) := by
  intro B F env σ H Q st p
  unfold cV at p
  split at p
  · rename_i r e
    obtain ⟨v, e1, h⟩ := st.sl i r e
    refine ⟨v, e1, p F H v (Grow.refl st.cfg) ?_⟩
    cases r with
    | ol xs => exact h.bor
    | od xs => exact h.bor
    | ot xs => exact h.bor
    | ob me x fs => exact h.bor
    | _ => exact h
  · exact p.elim
theorem vv (i : Nat) {x : Str} {pos : Pos} (hN : X.N[i]? = some x := by rfl) (hv : Vis X.env.scope x := by first | exact Or.inl rfl | exact Or.inr (Or.inl rfl) | exact Or.inr (Or.inr rfl)) (hd : (x == ("__debug__" : Str)) = false := by decide)
    (hcd : (x == ("__classdict__" : Str)) = false := by decide) : VE ca W X (.Name x pos) (cV i) := ⟨_, pe_var hN hv hd hcd, snd_var⟩
theorem ve_gint {x : Str} {i : Int} {t : Tok} {pos : Pos} (hg : Gl X x) (hm : X.mg x = some (.int i t)) (hd : (x == ("__debug__" : Str)) = false := by decide) : VE ca W X (.Name x pos) (cC (.int i)) :=
  ⟨_, pe_glob hg hm (v := .int i) ⟨t, rfl⟩ hd, fun _ _ _ _ _ _ st p => p _ _ _ (Grow.refl st.cfg) (.int i)⟩
def Op2S (K : PySem.W.Frag) (ca : CA) (r : R2) (g : RV → RV → Rs RV) : Prop := ∀ (W : WX) σ F0 H0 F H v1 v2 a b Q, Grow F0 H0 F H → RVok K H0 F H v1 a → RVok K H0 F H v2 b → PostE K ca W σ F0 H0 Q (g a b) → r v1 v2 H Q
def Op1S (K : PySem.W.Frag) (ca : CA) (r : V → Hp → VK → Prop) (g : RV → Rs RV) : Prop := ∀ (W : WX) σ F0 H0 F H v a Q, Grow F0 H0 F H → RVok K H0 F H v a → PostE K ca W σ F0 H0 Q (g a) → r v H Q
def CaS (K : PySem.W.Frag) (ca : CA) (r : List V → Hp → VK → Prop) (g : List RV → Rs RV) : Prop := ∀ (W : WX) σ F0 H0 F H vs as Q, Grow F0 H0 F H → Paired (fun v a => RVok K H0 F H v a) vs as → PostE K ca W σ F0 H0 Q (g as) → r vs H Q
def c2 (g : RV → RV → Rs RV) (fa fb : VEnv → Rs RV) : VEnv → Rs RV := fun env => (fa env).bind fun x => (fb env).bind fun y => g x y
def c1 (g : RV → Rs RV) (fa : VEnv → Rs RV) : VEnv → Rs RV := fun env => (fa env).bind g
theorem snd_op2 {K : PySem.W.Frag} {r : R2} {g : RV → RV → Rs RV} {ta tb : TE} (hr : Op2S K ca r g) (sa : SndE K ca W ta fa) (sb : SndE K ca W tb fb) : SndE K ca W (tOp r ta tb) (c2 g fa fb) := by
  intro B F env σ H Q st p
  show ta σ H fun x H1 => tb σ H1 fun y H2 => r x y H2 Q
  refine seqE (PostE K ca W σ F H Q) sa st p (fun _ _ h => h) (fun h => h) fun x F1 H1 v1 p1 g1 q1 => ?_
  refine seqE (PostE K ca W σ F H Q) sb (st.grow g1) p1 (fun _ _ h => PostX.mono g1 h) (fun h => h) fun y F2 H2 v2 p2 g2 q2 => ?_
  exact hr W σ F H F2 H2 v1 v2 x y Q (g1.trans g2) (q1.grow g2) (q2.older g1.hh) p2
theorem snd_op1 {K : PySem.W.Frag} {r : V → Hp → VK → Prop} {g : RV → Rs RV} {ta : TE} (hr : Op1S K ca r g) (sa : SndE K ca W ta fa) : SndE K ca W (tUn r ta) (c1 g fa) := by
  intro B F env σ H Q st p
  show ta σ H fun x H1 => r x H1 Q
  refine seqE (PostE K ca W σ F H Q) sa st p (fun _ _ h => h) (fun h => h) fun x F1 H1 v1 p1 g1 q1 => ?_
  exact hr W σ F H F1 H1 v1 x Q g1 q1 p1
theorem ve_op {op : Operator} {r : R2} {g : RV → RV → Rs RV} (ho : OpR X (binaryOp op) r) (hr : Op2S X.K ca r g) (ha : VE ca W X a fa) (hb : VE ca W X b fb) : VE ca W X (.BinOp a op b pos) (c2 g fa fb) := by
  obtain ⟨ta, pa, sa⟩ := ha
  obtain ⟨tb, pb, sb⟩ := hb
  exact ⟨_, pe_op ho pa pb, snd_op2 hr sa sb⟩
theorem ve_un {op : UnaryOp} {r : V → Hp → VK → Prop} {g : RV → Rs RV} (ho : UnR X (unaryOp op) r) (hr : Op1S X.K ca r g) (ha : VE ca W X a fa) : VE ca W X (.UnaryOp op a pos) (c1 g fa) := by
  obtain ⟨ta, pa, sa⟩ := ha
  exact ⟨_, pe_un ho pa, snd_op1 hr sa⟩
theorem ve_ix {r : R2} {g : RV → RV → Rs RV} (ho : IxR X r) (hr : Op2S X.K ca r g) (ha : VE ca W X a fa) (hb : VE ca W X b fb) (hs : PlainIx b) : VE ca W X (.Subscript a b pos) (c2 g fa fb) := by
  obtain ⟨ta, pa, sa⟩ := ha
  obtain ⟨tb, pb, sb⟩ := hb
  exact ⟨_, pe_ix ho pa pb hs, snd_op2 hr sa sb⟩
end
end VL
namespace VL
open PySem PySem.Spec PyProof.Rows L2
def RV.toD : RV → Option PyData
  | .d x => some x
  | .ol xs => some (.list xs)
  | _ => none
def allD : List RV → Option (List PyData)
  | [] => some []
  | r :: rs => r.toD.bind fun d => (allD rs).bind fun ds => some (d :: ds)
def Fz (K : PySem.W.Frag) (H0 F H : Hp) (v : V) (d : PyData) : Prop := Dq K F v d ∨ ∃ p ws xs, v = .ref p ∧ d = .list xs ∧ H0 p = none ∧ H p = some (.lst ws) ∧ DqA K F ws xs
theorem Fz.of {K : PySem.W.Frag} {H0 F H : Hp} {v : V} {r : RV} {d : PyData} (h : RVok K H0 F H v r) (e : r.toD = some d) : Fz K H0 F H v d := by
  cases r with
  | d x => cases e; exact .inl h
  | ol xs => cases e; obtain ⟨p, vs, e1, n0, f, hp, q⟩ := h; exact .inr ⟨p, vs, xs, e1, rfl, n0, hp, q⟩
  | _ => cases e
theorem Fz.ofs {K : PySem.W.Frag} {H0 F H : Hp} : ∀ {rs : List RV} {vs : List V} {ds : List PyData}, Paired (fun v r => RVok K H0 F H v r) vs rs → allD rs = some ds → Paired (fun v d => Fz K H0 F H v d) vs ds
  | [], _, ds, h, e => by cases h; simp [allD] at e; subst e; exact .nil
  | r :: rs, _, ds, h, e => by
    cases h with
    | cons h1 h2 =>
      unfold allD at e
      cases e1 : r.toD with
      | none => rw [e1] at e; simp at e
      | some d =>
        cases e2 : allD rs with
        | none => rw [e1, e2] at e; simp at e
        | some es => rw [e1, e2] at e; simp at e; subst e; exact .cons (Fz.of h1 e1) (Fz.ofs h2 e2)
theorem Fz.mono {K : PySem.W.Frag} {H0 F F' H : Hp} (e : Same F F') {v : V} {d : PyData} (h : Fz K H0 F H v d) : Fz K H0 F' H v d := by
  rcases h with h | ⟨p, ws, xs, e1, e2, n0, hp, q⟩
  · exact .inl (h.mono e)
  · exact .inr ⟨p, ws, xs, e1, e2, n0, hp, DqA.mono e _ _ q⟩
theorem frz {K : PySem.W.Frag} {F0 H0 F H : Hp} (g : Grow F0 H0 F H) {v : V} {d : PyData} (h : Fz K H0 F H v d) : ∃ F', Grow F0 H0 F' H ∧ Same F F' ∧ Dq K F' v d := by
  rcases h with h | ⟨p, ws, xs, rfl, rfl, n0, hp, q⟩
  · exact ⟨F, g, Same.refl _, h⟩
  · cases e : F p with
    | none =>
      have s : Same F (upd F p (.lst ws)) := fun b u k => by rw [upd_ne (ne_of_none k e)]; exact k
      exact ⟨_, g.freeze n0 e hp, s, .lst upd_same (DqA.mono s _ _ q)⟩
    | some o =>
      have := g.cfg.sub _ _ e
      rw [hp] at this
      cases this
      exact ⟨F, g, Same.refl _, .lst e q⟩
theorem frzs {K : PySem.W.Frag} {F0 H0 H : Hp} : ∀ {F : Hp} {vs : List V} {ds : List PyData}, Grow F0 H0 F H → Paired (fun v d => Fz K H0 F H v d) vs ds → ∃ F', Grow F0 H0 F' H ∧ Same F F' ∧ DqA K F' vs ds
  | F, _, _, g, .nil => ⟨F, g, Same.refl _, .nil⟩
  | F, _, _, g, .cons h1 h2 => by
    obtain ⟨F1, g1, s1, q1⟩ := frz g h1
    obtain ⟨F2, g2, s2, q2⟩ := frzs g1 (Paired.mapP h2 fun _ _ z => z.mono s1)
    exact ⟨F2, g2, s1.trans s2, .cons (q1.mono s2) q2⟩
section
variable {ca : CA} {W : WX} {X : Cx} {a b e : Expr} {es : List Expr} {fa fb : VEnv → Rs RV} {pos : Pos}
def aN : VEnv → Rs (List RV) := fun _ => .ok []
def aC (f : VEnv → Rs RV) (g : VEnv → Rs (List RV)) : VEnv → Rs (List RV) := fun env => (f env).bind fun x => (g env).bind fun xs => .ok (x :: xs)
theorem va_nil : VA ca W X [] aN := ⟨_, pa_nil, fun _ _ _ _ _ _ st p => p _ _ _ (Grow.refl st.cfg) .nil⟩
theorem va_cons {f : VEnv → Rs RV} {g : VEnv → Rs (List RV)} (he : VE ca W X e f) (hr : VA ca W X es g) (hs : starEach (e :: es) X.env = (false, eval e X.env) :: starEach es X.env := by rfl) : VA ca W X (e :: es) (aC f g) := by
  obtain ⟨te, pe, se⟩ := he
  obtain ⟨tr, pr, sr⟩ := hr
  refine ⟨_, pa_cons pe pr hs, fun B F env σ H Q st p => ?_⟩
  show te σ H fun x H1 => tr σ H1 fun xs H2 => Q (x :: xs) H2
  refine seqE (PostA X.K ca W σ F H Q) se st p (fun _ _ h => h) (fun h => h) fun x F1 H1 v1 p1 g1 q1 => ?_
  refine seqA (PostA X.K ca W σ F H Q) sr (st.grow g1) p1 (fun _ _ h => PostX.mono g1 h) (fun h => h) fun xs F2 H2 vs p2 g2 q2 => ?_
  exact p2 F2 H2 (v1 :: vs) (g1.trans g2) (.cons (q1.grow g2) (paired_older g1.hh q2))
def rsO {α : Type} : Option α → Rs α
  | some a => .ok a
  | none => .no
@[simp] theorem rsO_some {α : Type} (a : α) : rsO (some a) = .ok a := rfl
@[simp] theorem rsO_none {α : Type} : rsO (none : Option α) = .no := rfl
def gTupl (rs : List RV) : Rs RV := (rsO (allD rs)).bind fun ds => if ds.length ≤ 1000 then .ok (.d (.tuple ds)) else .no
def gList (rs : List RV) : Rs RV := (rsO (allD rs)).bind fun ds => if ds.length ≤ 1000 then .ok (.ol ds) else .no
def cA (g : List RV → Rs RV) (f : VEnv → Rs (List RV)) : VEnv → Rs RV := fun env => (f env).bind g
theorem small_line {n : Nat} (h : n ≤ 1000) : n ≤ sizeLine := Nat.le_of_lt (small1000 h)
def tTupN (t : TA) : TE := fun σ H Q => t σ H fun xs H1 => xs.length ≤ sizeLine ∧ ∀ (o : Obj) p, o.dict = none → H1 p = none → Q (.ref p) (upd H1 p (.frz o (.tup xs)))
theorem pe_tupN {X : Cx} {es : List Expr} {x1} {pos : Pos} {t : TA} (ha : PA X es t) : PE X (.Tuple es x1 pos) (tTupN t) := by
  constructor
  intro pins s σ H Q I q0
  refine wpAny_Tuple_spliced (thn (ha.run pos pins s σ H _ I q0) fun us s2 ⟨xs, H2, I2, rv, hz, q2⟩ => ⟨by rw [← rv.length]; exact hz, ?_⟩)
  have nn : H2 s2.heap.objs.size = none := I2.hok.fresh (Nat.le_refl _)
  refine ⟨.ref s2.heap.objs.size, upd H2 s2.heap.objs.size (.frz { cls := .type "tuple", data := .seq us.toArray } (.tup xs)), I2.laid (t' := s2.toks) (fun _ _ e => Heap.get?_push_of_some _ e) (Nat.le_refl _) ?_, rfl, q2 _ _ rfl nn⟩
  exact ⟨Heap.get?_push_size _ rfl, hz, us, rv, ⟨_, Heap.get?_push_size _ rfl, rfl, _, rfl⟩⟩
theorem ve_tup {x1} {f : VEnv → Rs (List RV)} (h : VA ca W X es f) : VE ca W X (.Tuple es x1 pos) (cA gTupl f) := by
  obtain ⟨t, pa, sa⟩ := h
  refine ⟨_, pe_tupN pa, fun B F env σ H Q st p => ?_⟩
  show t σ H fun xs H1 => xs.length ≤ sizeLine ∧ ∀ (o : Obj) p, o.dict = none → H1 p = none → Q (.ref p) (upd H1 p (.frz o (.tup xs)))
  refine seqA (PostE X.K ca W σ F H Q) sa st p (fun _ _ h => h) (fun h => h) fun rs F1 H1 vs p1 g1 q1 => ?_
  unfold gTupl at p1
  cases e : allD rs with
  | none => rw [e] at p1; exact p1.elim
  | some ds =>
    rw [e] at p1
    simp only [rsO_some, Rs.bind_ok] at p1
    split at p1
    · rename_i hz
      obtain ⟨F2, g2, s2, q2⟩ := frzs g1 (Fz.ofs q1 e)
      refine ⟨by rw [q2.length]; exact small_line hz, fun o a no n => ?_⟩
      have g3 := Grow.newF g2.cfg (.frz o (.tup vs)) n
      exact p1 _ _ _ (g2.trans g3) (.tup (.frz no upd_same) (DqA.mono g3.ff _ _ q2))
    · exact p1.elim
theorem ve_lst {f : VEnv → Rs (List RV)} (h : VA ca W X es f) : VE ca W X (.List es pos) (cA gList f) := by
  obtain ⟨t, pa, sa⟩ := h
  refine ⟨_, pe_lst pa, fun B F env σ H Q st p => ?_⟩
  show t σ H fun xs H1 => xs.length ≤ sizeLine ∧ ∀ p, H1 p = none → Q (.ref p) (upd H1 p (.lst xs))
  refine seqA (PostE X.K ca W σ F H Q) sa st p (fun _ _ h => h) (fun h => h) fun rs F1 H1 vs p1 g1 q1 => ?_
  unfold gList at p1
  cases e : allD rs with
  | none => rw [e] at p1; exact p1.elim
  | some ds =>
    rw [e] at p1
    simp only [rsO_some, Rs.bind_ok] at p1
    split at p1
    · rename_i hz
      obtain ⟨F2, g2, s2, q2⟩ := frzs g1 (Fz.ofs q1 e)
      refine ⟨by rw [q2.length]; exact small_line hz, fun a n => ?_⟩
      have g3 := Grow.newO g2.cfg (.lst vs) n (fun _ z => by cases z)
      exact p1 _ _ _ (g2.trans g3) ⟨a, vs, rfl, none_n g2.hh n, same_none g2.cfg.sub n, upd_same, q2⟩
    · exact p1.elim
theorem ve_cmp {op : CmpOp} {r : R2} {g : RV → RV → Rs RV} (ho : OpR X (compareOp op) r) (hr : Op2S X.K ca r g) (ha : VE ca W X a fa) (hb : VE ca W X b fb) (hm : behindInMarks op b = false) : VE ca W X (.Compare a [op] [b] pos) (c2 g fa fb) := by
  obtain ⟨ta, pa, sa⟩ := ha
  obtain ⟨tb, pb, sb⟩ := hb
  exact ⟨_, pe_cmpR ho pa pb hm, snd_op2 hr sa sb⟩
def asB : RV → Rs Bool
  | .d (.bool b) => .ok b
  | _ => .no
def cB (f : VEnv → Rs RV) : VEnv → Rs Bool := fun env => (f env).bind asB
theorem snd_test {K : PySem.W.Frag} {t : TE} {f : VEnv → Rs RV} (s : SndE K ca W t f) : SndT K ca W (tTest t) (cB f) := by
  intro B F env σ H Q st p
  show t σ H fun x H' => ∃ k, x = .bl k ∧ Q k H'
  refine seqE (PostB K ca W σ F H Q) s st p (fun _ _ h => h) (fun h => h) fun x F1 H1 v1 p1 g1 q1 => ?_
  unfold asB at p1
  split at p1
  · rename_i k
    cases q1
    exact ⟨k, rfl, p1 _ _ g1⟩
  · exact p1.elim
theorem vt_cmp {op : CmpOp} {r : R2} {g : RV → RV → Rs RV} (ho : OpR X (compareOp op) r) (hr : Op2S X.K ca r g) (ha : VE ca W X a fa) (hb : VE ca W X b fb) (hm : behindInMarks op b = false) : VT ca W X (.Compare a [op] [b] pos) (cB (c2 g fa fb)) := by
  obtain ⟨ta, pa, sa⟩ := ha
  obtain ⟨tb, pb, sb⟩ := hb
  exact ⟨_, pt_cmpR ho pa pb hm, snd_test (snd_op2 hr sa sb)⟩
theorem vt_val {f : VEnv → Rs RV} (h : VE ca W X e f) (he : ∀ whole, isTrue e X.env whole = (do let v ← whole; standAt e.pos; holding [v] (truthy v)) := by intro _; rfl) : VT ca W X e (cB f) := by
  obtain ⟨t, pe, se⟩ := h
  exact ⟨_, pt_val pe he, snd_test se⟩
def bNot (f : VEnv → Rs Bool) : VEnv → Rs Bool := fun env => (f env).bind fun b => .ok (!b)
def bAnd (f g : VEnv → Rs Bool) : VEnv → Rs Bool := fun env => (f env).bind fun b => if b = true then g env else .ok false
def bOr (f g : VEnv → Rs Bool) : VEnv → Rs Bool := fun env => (f env).bind fun b => if b = true then .ok true else g env
theorem vt_not {f : VEnv → Rs Bool} (h : VT ca W X a f) : VT ca W X (.UnaryOp .Not a pos) (bNot f) := by
  obtain ⟨t, pe, se⟩ := h
  refine ⟨_, pt_not pe, fun B F env σ H Q st p => ?_⟩
  show t σ H fun c H1 => Q (!c) H1
  exact seqT (PostB X.K ca W σ F H Q) se st p (fun _ _ h => h) (fun h => h) fun x F1 H1 p1 g1 => p1 _ _ g1
theorem vw_and1 {f : VEnv → Rs Bool} (h : VT ca W X a f) : VW ca W X (.BoolOp .And [a] pos) f := by
  obtain ⟨t, pe, se⟩ := h
  exact ⟨_, pw_and1 pe, se⟩
theorem vw_or1 {f : VEnv → Rs Bool} (h : VT ca W X a f) : VW ca W X (.BoolOp .Or [a] pos) f := by
  obtain ⟨t, pe, se⟩ := h
  exact ⟨_, pw_or1 pe, se⟩
theorem vw_and {rest : List Expr} {f g : VEnv → Rs Bool} (h : VT ca W X a f) (h2 : VW ca W X (.BoolOp .And (b :: rest) pos) g) : VW ca W X (.BoolOp .And (a :: b :: rest) pos) (bAnd f g) := by
  obtain ⟨t, pe, se⟩ := h
  obtain ⟨u, pu, su⟩ := h2
  refine ⟨_, pw_and pe pu, fun B F env σ H Q st p => ?_⟩
  show t σ H fun c H1 => if c = true then u σ H1 Q else Q false H1
  refine seqT (PostB X.K ca W σ F H Q) se st p (fun _ _ h => h) (fun h => h) fun x F1 H1 p1 g1 => ?_
  cases x with
  | true => rw [if_pos rfl]; rw [if_pos rfl] at p1; exact su B F1 env σ H1 Q (st.grow g1) (PostB.mono g1 p1)
  | false => rw [if_neg Bool.false_ne_true]; rw [if_neg Bool.false_ne_true] at p1; exact p1 _ _ g1
theorem vw_or {rest : List Expr} {f g : VEnv → Rs Bool} (h : VT ca W X a f) (h2 : VW ca W X (.BoolOp .Or (b :: rest) pos) g) : VW ca W X (.BoolOp .Or (a :: b :: rest) pos) (bOr f g) := by
  obtain ⟨t, pe, se⟩ := h
  obtain ⟨u, pu, su⟩ := h2
  refine ⟨_, pw_or pe pu, fun B F env σ H Q st p => ?_⟩
  show t σ H fun c H1 => if c = true then Q true H1 else u σ H1 Q
  refine seqT (PostB X.K ca W σ F H Q) se st p (fun _ _ h => h) (fun h => h) fun x F1 H1 p1 g1 => ?_
  cases x with
  | false => rw [if_neg Bool.false_ne_true]; rw [if_neg Bool.false_ne_true] at p1; exact su B F1 env σ H1 Q (st.grow g1) (PostB.mono g1 p1)
  | true => rw [if_pos rfl]; rw [if_pos rfl] at p1; exact p1 _ _ g1
theorem vw {f : VEnv → Rs Bool} (h : VW ca W X e f) : VT ca W X e f := by
  obtain ⟨t, pe, se⟩ := h
  exact ⟨_, pe.pt, se⟩
def vAnd (f g : VEnv → Rs RV) : VEnv → Rs RV := fun env => (cB f env).bind fun b => if b = true then g env else .ok (.d (.bool false))
def vOr (f g : VEnv → Rs RV) : VEnv → Rs RV := fun env => (cB f env).bind fun b => if b = true then .ok (.d (.bool true)) else g env
def vNot (f : VEnv → Rs RV) : VEnv → Rs RV := fun env => (cB f env).bind fun b => .ok (.d (.bool (!b)))
theorem ve_one {op} {f : VEnv → Rs RV} (h : VE ca W X a f) : VE ca W X (.BoolOp op [a] pos) f := by
  obtain ⟨t, pe, se⟩ := h
  exact ⟨_, pe_one pe, se⟩
theorem seqBE {K : PySem.W.Frag} {B : Base} {F H : Hp} {env : VEnv} {σ : L2.St} {t : TE} {f : VEnv → Rs RV} {Q : VK} {α : Type} {k : Bool → Rs α} (P : Rs α → Prop) (s : SndE K ca W t f) (st : StOk K ca B F env σ H)
    (post : P ((cB f env).bind k)) (hx : ∀ c fs, P (.ex c fs) → PostX K ca W σ F H c fs) (hn : ¬ P .no)
    (h : ∀ r F1 H1, P (k r) → Grow F H F1 H1 → Q (.bl r) H1) : t σ H Q := by
  refine s B F env σ H Q st ?_
  unfold cB at post
  cases e : f env with
  | ok r =>
    rw [e] at post
    intro F' H' v g q
    cases r with
    | d x =>
      cases x with
      | bool b => cases q; exact h b F' H' post g
      | _ => exact absurd post hn
    | _ => exact absurd post hn
  | ex c fs => rw [e] at post; exact hx c fs post
  | no => rw [e] at post; exact hn post
theorem ve_or {rest : List Expr} {f g : VEnv → Rs RV} (h : VE ca W X a f) (h2 : VE ca W X (.BoolOp .Or (b :: rest) pos) g) : VE ca W X (.BoolOp .Or (a :: b :: rest) pos) (vOr f g) := by
  obtain ⟨t, pe, se⟩ := h
  obtain ⟨u, pu, su⟩ := h2
  refine ⟨_, pe_or pe pu, fun B F env σ H Q st p => ?_⟩
  show t σ H fun x H1 => ∃ c, x = .bl c ∧ if c = true then Q (.bl true) H1 else u σ H1 Q
  refine seqBE (PostE X.K ca W σ F H Q) se st p (fun _ _ h => h) (fun h => h) fun x F1 H1 p1 g1 => ⟨x, rfl, ?_⟩
  cases x with
  | false => rw [if_neg Bool.false_ne_true]; rw [if_neg Bool.false_ne_true] at p1; exact su B F1 env σ H1 Q (st.grow g1) (PostE.mono g1 p1)
  | true => rw [if_pos rfl]; rw [if_pos rfl] at p1; exact p1 _ _ _ g1 (.bl true)
def vIf (t : VEnv → Rs Bool) (f g : VEnv → Rs RV) : VEnv → Rs RV := fun env => (t env).bind fun b => if b = true then f env else g env
theorem snd_call {K : PySem.W.Frag} {r : List V → Hp → VK → Prop} {g : List RV → Rs RV} {t : TA} {f : VEnv → Rs (List RV)} (hr : CaS K ca r g) (sa : SndA K ca W t f) : SndE K ca W (tCB r t) (cA g f) := by
  intro B F env σ H Q st p
  show t σ H fun vs H1 => r vs H1 Q
  refine seqA (PostE K ca W σ F H Q) sa st p (fun _ _ h => h) (fun h => h) fun rs F1 H1 vs p1 g1 q1 => ?_
  exact hr W σ F H F1 H1 vs rs Q g1 q1 p1
theorem ve_callB {id : String} {x : Str} {p : Pos} {r : List V → Hp → VK → Prop} {g : List RV → Rs RV} {f : VEnv → Rs (List RV)} (hc : CallR X (.builtin id) r) (hr : CaS X.K ca r g) (hg : Gl X x) (hm : X.mg x = none) (hv : bootBuiltins x = some (.builtin id)) (ha : VA ca W X (e :: es) f) (hn : x ≠ "__name__" := by decide) (hdb : (x == ("__debug__" : Str)) = false := by decide)
    (he : starEach (e :: es) X.env = (false, eval e X.env) :: starEach es X.env := by rfl) (hpl : (backTo pos (starEach es X.env)).any (·.1) = false := by rfl) : VE ca W X (.Call (.Name x p) (e :: es) [] pos) (cA g f) := by
  obtain ⟨t, pa, sa⟩ := ha
  exact ⟨_, pe_callB hc hg hm hv pa hn hdb he hpl, snd_call hr sa⟩
theorem ve_callTy {T : String} {x : Str} {p : Pos} {r : List V → Hp → VK → Prop} {g : List RV → Rs RV} {f : VEnv → Rs (List RV)} (hc : CallR X (.type T) r) (hr : CaS X.K ca r g) (hg : Gl X x) (hm : X.mg x = none) (hv : bootBuiltins x = some (.type T)) (ha : VA ca W X (e :: es) f) (hn : x ≠ "__name__" := by decide) (hdb : (x == ("__debug__" : Str)) = false := by decide)
    (he : starEach (e :: es) X.env = (false, eval e X.env) :: starEach es X.env := by rfl) (hpl : (backTo pos (starEach es X.env)).any (·.1) = false := by rfl) : VE ca W X (.Call (.Name x p) (e :: es) [] pos) (cA g f) := by
  obtain ⟨t, pa, sa⟩ := ha
  exact ⟨_, pe_callTy hc hg hm hv pa hn hdb he hpl, snd_call hr sa⟩
end
end VL
namespace VL
open PySem PySem.Spec PyProof.Rows L2
inductive Out where
  | nx (env : VEnv) | rt (r : RV) | bk (env : VEnv) | ct (env : VEnv)
  | ex (c : Nat) (fs : List (Str × PyData)) (env : VEnv)
  | rm (o : Option (Str × List (Str × FV))) (d : PyData)
  | rp (x : Str) (fs : List (Str × FV)) (d : PyData)
  | no
def Out.then : Out → (VEnv → Out) → Out
  | .nx env, f => f env
  | o, _ => o
@[simp] theorem Out.then_nx (env f) : (Out.nx env).then f = f env := rfl
@[simp] theorem Out.then_rt (r f) : (Out.rt r).then f = .rt r := rfl
@[simp] theorem Out.then_bk (r f) : (Out.bk r).then f = .bk r := rfl
@[simp] theorem Out.then_ct (r f) : (Out.ct r).then f = .ct r := rfl
@[simp] theorem Out.then_ex (c fs e f) : (Out.ex c fs e).then f = .ex c fs e := rfl
@[simp] theorem Out.then_rm (o d f) : (Out.rm o d).then f = .rm o d := rfl
@[simp] theorem Out.then_rp (x fs d f) : (Out.rp x fs d).then f = .rp x fs d := rfl
@[simp] theorem Out.then_no (f) : Out.no.then f = .no := rfl
def Rs.out {α : Type} (m : Rs α) (env : VEnv) (f : α → Out) : Out := match m with
  | .ok a => f a
  | .ex c fs => .ex c fs env
  | .no => .no
@[simp] theorem Rs.out_ok {α : Type} (a : α) (env f) : (Rs.ok a).out env f = f a := rfl
@[simp] theorem Rs.out_ex {α : Type} (c fs env) (f : α → Out) : (Rs.ex c fs : Rs α).out env f = .ex c fs env := rfl
@[simp] theorem Rs.out_no {α : Type} (env) (f : α → Out) : (Rs.no : Rs α).out env f = .no := rfl
def MeOk (K : PySem.W.Frag) (B : Base) (F H : Hp) : Option (Str × List (Str × FV)) → Prop
  | some (x, fs) => ObOk K B.H F H B.me x fs
  | none => True
def PairOk (K : PySem.W.Frag) (H0 F H : Hp) (v : V) (x : Str) (fs : List (Str × FV)) (d : PyData) : Prop := ∃ p q w, v = .ref p ∧ SqT K H p [.ref q, w] ∧ ObOk K H0 F H q x fs ∧ Dq K F w d
section
variable (K : PySem.W.Frag) (ca : CA) (W : WX) (B : Base) (F0 : Hp)
def PostS (D : Ends) : Out → Prop
  | .nx env => ∀ F σ H, Same F0 F → StOk K ca B F env σ H → D.nx σ H
  | .bk env => ∀ F σ H, Same F0 F → StOk K ca B F env σ H → D.bk σ H
  | .ct env => ∀ F σ H, Same F0 F → StOk K ca B F env σ H → D.ct σ H
  | .rt r => ∀ F H v, Grow B.F B.H F H → RVok K B.H F H v r → D.rt v H
  | .ex c fs env => ∀ F σ H cls dx, Same F0 F → StOk K ca B F env σ H → ExOk K ca F H cls dx c fs → W cls dx σ H
  | .rm o d => ∀ F H v, Grow B.F B.H F H → Dq K F v d → TabOk ca.T F H → MeOk K B F H o → D.rt v H
  | .rp x fs d => ∀ F H v, Grow B.F B.H F H → TabOk ca.T F H → PairOk K B.H F H v x fs d → D.rt v H
  | .no => False
end
theorem PostS.mono {K : PySem.W.Frag} {ca : CA} {W : WX} {B : Base} {F0 F1 : Hp} {D : Ends} {o : Out} (e : Same F0 F1) (h : PostS K ca W B F0 D o) : PostS K ca W B F1 D o := by
  cases o with
  | nx env => exact fun F σ H s st => h F σ H (e.trans s) st
  | bk env => exact fun F σ H s st => h F σ H (e.trans s) st
  | ct env => exact fun F σ H s st => h F σ H (e.trans s) st
  | rt r => exact h
  | rm o d => exact h
  | rp x fs d => exact h
  | ex c fs env => exact fun F σ H cls dx s st => h F σ H cls dx (e.trans s) st
  | no => exact h
def SndS (K : PySem.W.Frag) (ca : CA) (W : WX) (t : TS) (f : VEnv → Out) : Prop := ∀ B F env σ H D, StOk K ca B F env σ H → PostS K ca W B F D (f env) → t D σ H
structure VS (ca : CA) (W : WX) (X : Cx) (st : Stmt) (f : VEnv → Out) : Prop where
  ex : ∃ t, PS X st t ∧ SndS X.K ca W t f
structure VSs (ca : CA) (W : WX) (X : Cx) (st : List Stmt) (f : VEnv → Out) : Prop where
  ex : ∃ t, PSs X st t ∧ SndS X.K ca W t f
section
variable {K : PySem.W.Frag} {ca : CA} {W : WX} {B : Base} {F H : Hp} {env : VEnv} {σ : L2.St}
theorem exOut {c : Nat} {fs : List (Str × PyData)} {D : Ends} (st : StOk K ca B F env σ H) (h : PostS K ca W B F D (.ex c fs env)) : PostX K ca W σ F H c fs :=
  fun F' H' cls dx g e => h F' σ H' cls dx g.ff (st.grow g) e
theorem outE {t : TE} {f : VEnv → Rs RV} {Q : VK} {D : Ends} {k : RV → Out} (s : SndE K ca W t f) (st : StOk K ca B F env σ H)
    (post : PostS K ca W B F D ((f env).out env k)) (h : ∀ r F1 H1 v, PostS K ca W B F1 D (k r) → Grow F H F1 H1 → RVok K H F1 H1 v r → Q v H1) : t σ H Q := by
  refine s B F env σ H Q st ?_
  cases e : f env with
  | ok r => rw [e] at post; exact fun F' H' v g q => h r F' H' v (PostS.mono g.ff post) g q
  | ex c fs => rw [e] at post; exact exOut st post
  | no => rw [e] at post; exact post
theorem outT {t : TT} {f : VEnv → Rs Bool} {Q : Bool → Hp → Prop} {D : Ends} {k : Bool → Out} (s : SndT K ca W t f) (st : StOk K ca B F env σ H)
    (post : PostS K ca W B F D ((f env).out env k)) (h : ∀ r F1 H1, PostS K ca W B F1 D (k r) → Grow F H F1 H1 → Q r H1) : t σ H Q := by
  refine s B F env σ H Q st ?_
  cases e : f env with
  | ok r => rw [e] at post; exact fun F' H' g => h r F' H' (PostS.mono g.ff post) g
  | ex c fs => rw [e] at post; exact exOut st post
  | no => rw [e] at post; exact post
theorem own_some {K : PySem.W.Frag} {H0 F H : Hp} {p : Addr} {r : RV} (o : r.own = true) (h : RVok K H0 F H (.ref p) r) : H0 p = none ∧ F p = none ∧ ∃ u, H p = some u := by
  cases r with
  | ol xs => obtain ⟨a, vs, z, n, f, hp, _⟩ := h; cases z; exact ⟨n, f, _, hp⟩
  | od xs => obtain ⟨a, vs, z, n, f, hp, _⟩ := h; cases z; exact ⟨n, f, _, hp⟩
  | ot xs => obtain ⟨a, vs, z, n, f, hp, _⟩ := h; cases z; exact ⟨n, f, _, hp⟩
  | ob me x fs => obtain ⟨a, z, C, dx, vs, _, hp, n, f, _⟩ := h; cases z; exact ⟨n, f, _, hp⟩
  | _ => cases o
theorem set_at {env : VEnv} {σ : L2.St} (hl : env.length = σ.length) {i j : Nat} (hi : i < env.length) {r r' : RV} {v : V} (e : (env.set i (some r))[j]? = some (some r')) :
    (j = i ∧ r' = r ∧ (σ.set i (some v))[j]? = some (some v)) ∨ (j ≠ i ∧ env[j]? = some (some r') ∧ (σ.set i (some v))[j]? = σ[j]?) := by
  by_cases h : i = j
  · subst h
    rw [List.getElem?_set_self hi] at e
    cases e
    exact .inl ⟨rfl, rfl, List.getElem?_set_self (by omega)⟩
  · rw [List.getElem?_set_ne h] at e
    exact .inr ⟨Ne.symm h, e, List.getElem?_set_ne h⟩
theorem StOk.rgPut0 (st : StOk K ca B F env σ H) {i : Nat} (hi : i < env.length) {v : V} {r : RV} (ho : r.own = false) (hb : r.isB = false) : Rg ca B F (env.set i (some r)) (σ.set i (some v)) H := by
  have at_ := fun {j : Nat} {r' : RV} (e : (env.set i (some r))[j]? = some (some r')) => set_at (v := v) st.len hi e
  refine ⟨st.rg.tb, fun a b p q me x fs r' e z hq e' o' => ?_, fun a b p p' q me me' x x' fs fs' ab e z e' z' hq => ?_, fun a p q x fs e z hq => ?_, fun a x fs e => ?_⟩
  · rcases at_ e with ⟨_, rfl, _⟩ | ⟨_, e1, z1⟩
    · cases ho
    · rcases at_ e' with ⟨_, rfl, _⟩ | ⟨_, e2, z2⟩
      · rw [ho] at o'; cases o'
      · rw [z1] at z; rw [z2]; exact st.rg.o1 a b p q me x fs r' e1 z hq e2 o'
  · rcases at_ e with ⟨_, rfl, _⟩ | ⟨_, e1, z1⟩
    · cases ho
    · rcases at_ e' with ⟨_, rfl, _⟩ | ⟨_, e2, z2⟩
      · cases ho
      · rw [z1] at z; rw [z2] at z'; exact st.rg.o2 a b p p' q me me' x x' fs fs' ab e1 z e2 z' hq
  · rcases at_ e with ⟨_, rfl, _⟩ | ⟨_, e1, z1⟩
    · cases hb
    · rw [z1] at z; exact st.rg.o3 a p q x fs e1 z hq
  · rcases at_ e with ⟨_, rfl, _⟩ | ⟨_, e1, z1⟩
    · cases ho
    · rw [z1]; exact st.rg.me a x fs e1
theorem StOk.put (st : StOk K ca B F env σ H) {i : Nat} (hi : i < env.length) {v : V} {r : RV} (q : RVok K B.H F H v r) (hb : r.isB = false) (rg : Rg ca B F (env.set i (some r)) (σ.set i (some v)) H)
    (hd : r.own = true → ∀ (j : Nat) (r' : RV) (p : Addr), j ≠ i → env[j]? = some (some r') → r'.own = true → v = .ref p → σ[j]? ≠ some (some (.ref p))) : StOk K ca B F (env.set i (some r)) (σ.set i (some v)) H := by
  have hi' : i < σ.length := by rw [← st.len]; exact hi
  refine ⟨st.gr, by simp [st.len], fun j r1 e => ?_, fun j r1 p e o s => ?_, fun j k r1 r2 p jk e1 e2 o1 o2 s1 s2 => ?_, rg⟩
  · by_cases h : i = j
    · subst h
      rw [List.getElem?_set_self hi] at e
      cases e
      exact ⟨v, by rw [List.getElem?_set_self hi'], q⟩
    · rw [List.getElem?_set_ne h] at e
      obtain ⟨w, e1, q1⟩ := st.sl j r1 e
      exact ⟨w, by rw [List.getElem?_set_ne h]; exact e1, q1⟩
  · by_cases h : i = j
    · subst h
      rw [List.getElem?_set_self hi] at e
      cases e
      rw [hb] at o; cases o
    · rw [List.getElem?_set_ne h] at e s
      exact st.bo j r1 p e o s
  · by_cases h1 : i = j
    · subst h1
      rw [List.getElem?_set_self hi] at e1
      rw [List.getElem?_set_self hi'] at s1
      rw [List.getElem?_set_ne jk] at e2 s2
      cases e1
      exact hd o1 k r2 p (Ne.symm jk) e2 o2 (Option.some.inj (Option.some.inj s1)) s2
    · rw [List.getElem?_set_ne h1] at e1 s1
      by_cases h2 : i = k
      · subst h2
        rw [List.getElem?_set_self hi] at e2
        rw [List.getElem?_set_self hi'] at s2
        cases e2
        exact hd o2 j r1 p (Ne.symm h1) e1 o1 (Option.some.inj (Option.some.inj s2)) s1
      · rw [List.getElem?_set_ne h2] at e2 s2
        exact st.dis j k r1 r2 p jk e1 e2 o1 o2 s1 s2
def RV.notMe : RV → Bool
  | .ob true _ _ => false
  | _ => true
theorem StOk.rgNew {F1 H1 : Hp} (st : StOk K ca B F env σ H) (g : Grow F H F1 H1) {i : Nat} (hi : i < env.length) {v : V} {r : RV} (q : RVok K H F1 H1 v r) (hb : r.isB = false) (hm : r.notMe = true) : Rg ca B F1 (env.set i (some r)) (σ.set i (some v)) H1 := by
  have st1 := st.grow g
  have at_ := fun {j : Nat} {r' : RV} (e : (env.set i (some r))[j]? = some (some r')) => set_at (v := v) st.len hi e
  have old1 : ∀ {j : Nat} {r' : RV} {p : Addr}, env[j]? = some (some r') → r'.own = true → σ[j]? = some (some (.ref p)) → ∃ u, H p = some u := fun {j r' p} e o z => by
    obtain ⟨w, e1, q1⟩ := st.sl j _ e
    rw [z] at e1
    cases e1
    exact (own_some o q1).2.2
  have old2 : ∀ {j : Nat} {p q : Addr} {me : Bool} {x : Str} {fs : List (Str × FV)}, env[j]? = some (some (.ob me x fs)) → σ[j]? = some (some (.ref p)) → q ∈ fla H1 p fs → ∃ u, H q = some u := fun {j p q me x fs} e z hq => by
    have h := st.obAt e z
    rw [fla_grow g.hh fs h.ins] at hq
    exact ⟨_, (h.at hq).2.2.choose_spec⟩
  have new1 : ∀ {p : Addr}, r.own = true → v = .ref p → H p = none := fun {p} o e => by
    subst e
    exact (own_some o q).1
  have new2 : ∀ {p q' : Addr} {me : Bool} {x : Str} {fs : List (Str × FV)}, r = .ob me x fs → v = .ref p → q' ∈ fla H1 p fs → H q' = none ∧ ∃ ws, H1 q' = some (.lst ws) := fun {p q' me x fs} er ev hq => by
    subst er; subst ev
    obtain ⟨p', z, h⟩ := q
    cases z
    exact ⟨(h.at hq).1, (h.at hq).2.2⟩
  have no : ∀ {q : Addr}, H q = none → (∃ u, H q = some u) → False := fun h ⟨u, e⟩ => by rw [h] at e; cases e
  refine ⟨st1.rg.tb, fun a b p q' me x fs r' e z hq e' o' => ?_, fun a b p p' q' me me' x x' fs fs' ab e z e' z' hq hq' => ?_, fun a p q' x fs e z hq => ?_, fun a x fs e => ?_⟩
  · rcases at_ e with ⟨ia, er, za⟩ | ⟨_, e1, z1⟩
    · rw [za] at z
      have ev : v = .ref p := Option.some.inj (Option.some.inj z)
      obtain ⟨n1, ws, hl⟩ := new2 er.symm ev hq
      rcases at_ e' with ⟨_, rfl, zb⟩ | ⟨_, e2, z2⟩
      · rw [zb, ev]
        intro w
        have w : p = q' := by injection w with w; injection w with w; injection w
        obtain ⟨p', z', C, dx, vs, _, hp, _⟩ := (er ▸ q : RVok K H F1 H1 v (.ob me x fs))
        rw [ev] at z'
        cases z'
        rw [w, hl] at hp
        cases hp
      · rw [z2]
        intro w
        exact no n1 (old1 e2 o' w)
    · rw [z1] at z
      have hs := old2 e1 z hq
      rcases at_ e' with ⟨_, rfl, zb⟩ | ⟨_, e2, z2⟩
      · rw [zb]
        intro w
        exact no (new1 o' (Option.some.inj (Option.some.inj w))) hs
      · rw [z2]; exact st1.rg.o1 a b p q' me x fs r' e1 z hq e2 o'
  · rcases at_ e with ⟨ia, er, za⟩ | ⟨_, e1, z1⟩
    · rw [za] at z
      have ev : v = .ref p := Option.some.inj (Option.some.inj z)
      obtain ⟨n1, ws, hl⟩ := new2 er.symm ev hq
      rcases at_ e' with ⟨ib, _, _⟩ | ⟨_, e2, z2⟩
      · exact ab (ia.trans ib.symm)
      · rw [z2] at z'
        exact no n1 (old2 e2 z' hq')
    · rw [z1] at z
      rcases at_ e' with ⟨ib, er, zb⟩ | ⟨_, e2, z2⟩
      · rw [zb] at z'
        exact no (new2 er.symm (Option.some.inj (Option.some.inj z')) hq').1 (old2 e1 z hq)
      · rw [z2] at z'
        exact st1.rg.o2 a b p p' q' me me' x x' fs fs' ab e1 z e2 z' hq hq'
  · rcases at_ e with ⟨_, rfl, _⟩ | ⟨_, e1, z1⟩
    · cases hb
    · rw [z1] at z; exact st1.rg.o3 a p q' x fs e1 z hq
  · rcases at_ e with ⟨_, rfl, _⟩ | ⟨_, e1, z1⟩
    · cases hm
    · rw [z1]; exact st1.rg.me a x fs e1
theorem StOk.putE {F1 H1 : Hp} (st : StOk K ca B F env σ H) (g : Grow F H F1 H1) {i : Nat} (hi : i < env.length) {v : V} {r : RV} (q : RVok K H F1 H1 v r) (hb : r.isB = false) (hm : r.notMe = true) : StOk K ca B F1 (env.set i (some r)) (σ.set i (some v)) H1 := by
  refine (st.grow g).put hi (q.older st.gr.hh) hb (st.rgNew g hi q hb hm) fun o j r' p ji e o' ev s => ?_
  obtain ⟨w, e1, q1⟩ := st.sl j r' e
  rw [s] at e1
  cases e1
  obtain ⟨_, _, ob, hp⟩ := own_some o' q1
  subst ev
  rw [(own_some o q).1] at hp
  cases hp
theorem StOk.put0 (st : StOk K ca B F env σ H) {i : Nat} (hi : i < env.length) {v : V} {r : RV} (q : RVok K B.H F H v r) (hb : r.isB = false) (ho : r.own = false) : StOk K ca B F (env.set i (some r)) (σ.set i (some v)) H :=
  st.put hi q hb (st.rgPut0 hi ho hb) fun z => by rw [ho] at z; cases z
theorem drop_at {env : VEnv} {i j : Nat} {r' : RV} (e : (env.set i none)[j]? = some (some r')) : j ≠ i ∧ env[j]? = some (some r') := by
  by_cases h : i = j
  · subst h
    by_cases hi : i < env.length
    · rw [List.getElem?_set_self hi] at e; cases e
    · rw [List.getElem?_eq_none (by simpa using hi)] at e; cases e
  · rw [List.getElem?_set_ne h] at e
    exact ⟨Ne.symm h, e⟩
theorem StOk.drop (st : StOk K ca B F env σ H) (i : Nat) : StOk K ca B F (env.set i none) (σ.set i none) H := by
  have sg : ∀ {j : Nat}, j ≠ i → (σ.set i none)[j]? = σ[j]? := fun h => List.getElem?_set_ne (Ne.symm h)
  refine ⟨st.gr, by simp [st.len], fun j r1 e => ?_, fun j r1 p e o s => ?_, fun j k r1 r2 p jk e1 e2 o1 o2 s1 s2 => ?_, ⟨st.rg.tb, fun a b p q me x fs r' e z hq e' o' => ?_, fun a b p p' q me me' x x' fs fs' ab e z e' z' hq => ?_, fun a p q x fs e z hq => ?_, fun a x fs e => ?_⟩⟩
  · obtain ⟨h, e⟩ := drop_at e
    obtain ⟨w, e1, q1⟩ := st.sl j r1 e
    exact ⟨w, by rw [sg h]; exact e1, q1⟩
  · obtain ⟨h, e⟩ := drop_at e
    rw [sg h] at s
    exact st.bo j r1 p e o s
  · obtain ⟨h1, e1⟩ := drop_at e1
    obtain ⟨h2, e2⟩ := drop_at e2
    rw [sg h1] at s1
    rw [sg h2] at s2
    exact st.dis j k r1 r2 p jk e1 e2 o1 o2 s1 s2
  · obtain ⟨h1, e⟩ := drop_at e
    obtain ⟨h2, e'⟩ := drop_at e'
    rw [sg h1] at z
    rw [sg h2]
    exact st.rg.o1 a b p q me x fs r' e z hq e' o'
  · obtain ⟨h1, e⟩ := drop_at e
    obtain ⟨h2, e'⟩ := drop_at e'
    rw [sg h1] at z
    rw [sg h2] at z'
    exact st.rg.o2 a b p p' q me me' x x' fs fs' ab e z e' z' hq
  · obtain ⟨h1, e⟩ := drop_at e
    rw [sg h1] at z
    exact st.rg.o3 a p q x fs e z hq
  · obtain ⟨h1, e⟩ := drop_at e
    rw [sg h1]
    exact st.rg.me a x fs e
end
def fzE (i : Nat) (env : VEnv) : VEnv := match env[i]? with
  | some (some (.ol xs)) => env.set i (some (.d (.list xs)))
  | _ => env
theorem StOk.fz {K : PySem.W.Frag} {B : Base} {F H : Hp} {env : VEnv} {σ : L2.St} (st : StOk K ca B F env σ H) (i : Nat) : ∃ F', Same F F' ∧ StOk K ca B F' (fzE i env) σ H := by
  unfold fzE
  split
  · rename_i xs e
    obtain ⟨v, e1, p, vs, rfl, n0, f, hp, q⟩ := st.sl i _ e
    have hi : i < env.length := (List.getElem?_eq_some_iff.mp e).1
    have s1 : Same F (upd F p (.lst vs)) := fun b u k => by rw [upd_ne (ne_of_none k f)]; exact k
    have up0 : ∀ {j : Nat} {r : RV}, (env.set i (some (.d (.list xs))))[j]? = some (some r) → (r.own = true ∨ r.isB = true) → j ≠ i ∧ env[j]? = some (some r) := fun {j r} e2 o => by
      by_cases h : i = j
      · subst h; rw [List.getElem?_set_self hi] at e2; cases e2; rcases o with o | o <;> cases o
      · rw [List.getElem?_set_ne h] at e2; exact ⟨Ne.symm h, e2⟩
    refine ⟨upd F p (.lst vs), s1, st.gr.freeze n0 f hp, by simpa using st.len, fun j r e2 => ?_, fun j r a e2 o z => ?_, fun j k r1 r2 a jk q1 q2 o1 o2 z1 z2 => ?_, ⟨st.rg.tb.to fun P ps f0 h0 => ⟨by rw [upd_ne (show P ≠ p from fun w => by rw [w, hp] at h0; cases h0)]; exact f0, rfl⟩,
      fun a b p' q me x fs r' e2 z hq e' o' => st.rg.o1 a b p' q me x fs r' (up0 e2 (.inl rfl)).2 z hq (up0 e' (.inl o')).2 o',
      fun a b p1 p' q me me' x x' fs fs' ab e2 z e' z' hq => st.rg.o2 a b p1 p' q me me' x x' fs fs' ab (up0 e2 (.inl rfl)).2 z (up0 e' (.inl rfl)).2 z' hq,
      fun a p' q x fs e2 z hq => st.rg.o3 a p' q x fs (up0 e2 (.inr rfl)).2 z hq,
      fun a x fs e2 => st.rg.me a x fs (up0 e2 (.inl rfl)).2⟩⟩
    · by_cases h : i = j
      · subst h
        rw [List.getElem?_set_self hi] at e2
        cases e2
        exact ⟨_, e1, .lst upd_same (DqA.mono s1 _ _ q)⟩
      · rw [List.getElem?_set_ne h] at e2
        obtain ⟨w, e3, q3⟩ := st.sl j r e2
        refine ⟨w, e3, ?_⟩
        have ne : ∀ a, r.own = true → w = .ref a → a ≠ p := fun a o z y => by
          subst y; subst z
          exact st.dis i j (.ol xs) r a h e e2 rfl o e1 e3
        cases r with
        | d x => exact Dq.mono s1 x w q3
        | ol ys => obtain ⟨a, ws, z, n, f2, h2, q4⟩ := q3; exact ⟨a, ws, z, n, by rw [upd_ne (ne a rfl z)]; exact f2, h2, DqA.mono s1 _ _ q4⟩
        | od ys => obtain ⟨a, ws, z, n, f2, h2, q4⟩ := q3; exact ⟨a, ws, z, n, by rw [upd_ne (ne a rfl z)]; exact f2, h2, q4.mono s1⟩
        | ot ys => obtain ⟨a, ws, z, n, f2, h2, q4⟩ := q3; exact ⟨a, ws, z, n, by rw [upd_ne (ne a rfl z)]; exact f2, h2, q4.mono s1⟩
        | sc ns => obtain ⟨a, z, q4⟩ := q3; exact ⟨a, z, s1.seq q4⟩
        | bl ys => obtain ⟨a, ws, z, h2, q4⟩ := q3; exact ⟨a, ws, z, h2, DqA.mono s1 _ _ q4⟩
        | bd ys => obtain ⟨a, ws, z, h2, q4⟩ := q3; exact ⟨a, ws, z, h2, q4.mono s1⟩
        | bt ys => obtain ⟨a, ws, z, h2, q4⟩ := q3; exact ⟨a, ws, z, h2, q4.mono s1⟩
        | xo a dd c fs => obtain ⟨z, ws, h2, q4⟩ := q3; exact ⟨z, ws, h2, q4.mono s1⟩
        | t3 x ys kvs => exact t3_mono s1 q3
        | fd kvs => exact fd_mono s1 q3
        | ob me x fs =>
          obtain ⟨a, z, h4⟩ := q3
          subst z
          have h5 := h4
          obtain ⟨C, dx, us, _, hi5, n5, f5, _⟩ := h5
          refine ⟨a, rfl, h4.to s1 n5 (by rw [upd_ne (ne a rfl rfl)]; exact f5) rfl fun q hq ws nq fq lq => ⟨nq, ?_, lq⟩⟩
          rw [upd_ne (show q ≠ p from fun w => st.rg.o1 j i a q me x fs (.ol xs) e2 e3 hq e rfl (w ▸ e1))]
          exact fq
        | bo x fs => obtain ⟨a, z, h4⟩ := q3; exact ⟨a, z, h4.to s1 rfl fun q _ ws lq => lq⟩
    · by_cases h : i = j
      · subst h; rw [List.getElem?_set_self hi] at e2; cases e2; cases o
      · rw [List.getElem?_set_ne h] at e2
        exact st.bo j r a e2 o z
    · by_cases h1 : i = j
      · subst h1; rw [List.getElem?_set_self hi] at q1; cases q1; cases o1
      · by_cases h2 : i = k
        · subst h2; rw [List.getElem?_set_self hi] at q2; cases q2; cases o2
        · rw [List.getElem?_set_ne h1] at q1
          rw [List.getElem?_set_ne h2] at q2
          exact st.dis j k r1 r2 a jk q1 q2 o1 o2 z1 z2
  · exact ⟨F, Same.refl _, st⟩
end VL
namespace VL
open PySem PySem.Spec PyProof.Rows L2
section
variable {ca : CA} {W : WX} {X : Cx} {a b e : Expr} {es : List Expr} {fa fb : VEnv → Rs RV} {pos : Pos} {st : Stmt} {rest : List Stmt} {f g : VEnv → Out}
def sNil : VEnv → Out := fun env => .nx env
def sSeq (f g : VEnv → Out) : VEnv → Out := fun env => (f env).then g
theorem vss_nil : VSs ca W X [] sNil := ⟨_, pss_nil, fun _ _ _ _ _ _ st p => p _ _ _ (Same.refl _) st⟩
theorem vss_cons (h1 : VS ca W X st f) (h2 : VSs ca W X rest g) : VSs ca W X (st :: rest) (sSeq f g) := by
  obtain ⟨t, p1, s1⟩ := h1
  obtain ⟨u, p2, s2⟩ := h2
  refine ⟨_, pss_cons p1 p2, fun B F env σ H D st p => ?_⟩
  show t { D with nx := u D } σ H
  refine s1 B F env σ H _ st ?_
  unfold sSeq at p
  cases e : f env with
  | nx env' => rw [e] at p; exact fun F' σ' H' s st' => s2 B F' env' σ' H' D st' (PostS.mono s p)
  | bk env' => rw [e] at p; exact p
  | ct env' => rw [e] at p; exact p
  | rt r => rw [e] at p; exact p
  | rm o d => rw [e] at p; exact p
  | rp x fs d => rw [e] at p; exact p
  | ex c fs env' => rw [e] at p; exact p
  | no => rw [e] at p; exact p
theorem vss_one (h1 : VS ca W X st f) : VSs ca W X [st] f := by
  obtain ⟨t, p1, s1⟩ := h1
  exact ⟨_, pss_one p1, s1⟩
def sFz (i : Nat) (f : VEnv → Out) : VEnv → Out := fun env => f (fzE i env)
theorem vs_fz (i : Nat) (h : VS ca W X st f) : VS ca W X st (sFz i f) := by
  obtain ⟨t, p1, s1⟩ := h
  refine ⟨t, p1, fun B F env σ H D st p => ?_⟩
  obtain ⟨F', s, st'⟩ := st.fz i
  exact s1 B F' (fzE i env) σ H D st' (PostS.mono s p)
def sBk : VEnv → Out := fun env => .bk env
def sCt : VEnv → Out := fun env => .ct env
theorem vs_continue : VS ca W X (.Continue pos) sCt := ⟨_, ps_continue, fun _ _ _ _ _ _ st p => p _ _ _ (Same.refl _) st⟩
def RV.nb : RV → Rs RV
  | .bl _ | .bd _ | .bt _ | .bo _ _ | .ob true _ _ => .no
  | r => .ok r
theorem nb_b {r r' : RV} (e : r.nb = .ok r') : r.isB = false ∧ r.notMe = true := by
  cases r with
  | ob me _ _ => cases me <;> cases e; exact ⟨rfl, rfl⟩
  | _ => first | exact ⟨rfl, rfl⟩ | cases e
def sRet (fe : VEnv → Rs RV) : VEnv → Out := fun env => (fe env).out env fun r => (r.nb).out env .rt
theorem vs_ret (he : VE ca W X e fa) : VS ca W X (.Return (some e) pos) (sRet fa) := by
  obtain ⟨t, pe, se⟩ := he
  refine ⟨_, ps_ret pe, fun B F env σ H D st p => ?_⟩
  refine outE (t := t) (Q := D.rt) se st p fun r F1 H1 v p1 g q => ?_
  cases r with
  | bl _ => exact p1.elim
  | bd _ => exact p1.elim
  | bt _ => exact p1.elim
  | bo _ _ => exact p1.elim
  | ob me _ _ =>
    cases me with
    | true => exact p1.elim
    | false => exact p1 F1 H1 v (st.gr.trans g) (q.older st.gr.hh)
  | _ => exact p1 F1 H1 v (st.gr.trans g) (q.older st.gr.hh)
def sRetV (i : Nat) : VEnv → Out := fun env => match env[i]? with
  | some (some r) => (r.nb).out env .rt
  | _ => .no
theorem vs_retv (i : Nat) {x : Str} {p' : Pos} (hN : X.N[i]? = some x := by rfl) (hv : Vis X.env.scope x := by first | exact Or.inl rfl | exact Or.inr (Or.inl rfl) | exact Or.inr (Or.inr rfl)) (hd : (x == ("__debug__" : Str)) = false := by decide)
    (hcd : (x == ("__classdict__" : Str)) = false := by decide) : VS ca W X (.Return (some (.Name x p')) pos) (sRetV i) := by
  refine ⟨_, ps_ret (pe_var hN hv hd hcd), fun B F env σ H D st p => ?_⟩
  unfold sRetV at p
  split at p
  · rename_i r e
    obtain ⟨v, e1, h⟩ := st.sl i r e
    refine ⟨v, e1, ?_⟩
    cases r with
    | bl _ => exact p.elim
    | bd _ => exact p.elim
    | bt _ => exact p.elim
    | bo _ _ => exact p.elim
    | ob me _ _ =>
      cases me with
      | true => exact p.elim
      | false => exact p F H v st.gr h
    | _ => exact p F H v st.gr h
  · exact p.elim
def sRetN : VEnv → Out := fun _ => .rt (.d .none)
def sDrop (fe : VEnv → Rs RV) : VEnv → Out := fun env => (fe env).out env fun _ => .nx env
def putS (i : Nat) (r : RV) (env : VEnv) : Out := (r.nb).out env fun r => if i < env.length then .nx (env.set i (some r)) else .no
def sSet (i : Nat) (fe : VEnv → Rs RV) : VEnv → Out := fun env => (fe env).out env fun r => putS i r env
theorem snd_put {K : PySem.W.Frag} {B : Base} {F H F1 H1 : Hp} {env : VEnv} {σ : L2.St} {D : Ends} {i : Nat} {r : RV} {v : V} (st : StOk K ca B F env σ H) (g : Grow F H F1 H1) (q : RVok K H F1 H1 v r) (p : PostS K ca W B F1 D (putS i r env)) : D.nx (σ.set i (some v)) H1 := by
  unfold putS at p
  have go : ∀ r' : RV, r.nb = .ok r' → r' = r := fun r' e => by
    cases r with
    | ob me _ _ => cases me <;> cases e; rfl
    | _ => cases e <;> rfl
  cases e : r.nb with
  | ok r' =>
    rw [e] at p
    cases go r' e
    simp only [Rs.out_ok] at p
    split at p
    · rename_i hi
      exact p F1 _ H1 (Same.refl _) (st.putE g hi q (nb_b e).1 (nb_b e).2)
    · exact p.elim
  | ex c fs => exact absurd e (by
      cases r with
      | ob me _ _ => cases me <;> simp [RV.nb]
      | _ => simp [RV.nb])
  | no => rw [e] at p; exact p.elim
theorem vs_set {i : Nat} {x : Str} {pos' : Pos} (hN : X.N.Nodup) (hi : X.N[i]? = some x) (hx : Loc X.env.scope x) (he : VE ca W X e fa) (hs : swapsWith e (some (.Name x pos')) pos.line X.env = pure false := by rfl) (hf : X.fn x = true ∨ X.env.scope.names.lookup x = some .local := by first | exact .inl rfl | exact .inr rfl | assumption) :
    VS ca W X (.Assign [.Name x pos'] e pos) (sSet i fa) := by
  obtain ⟨t, pe, se⟩ := he
  refine ⟨_, ps_set hN hi hx pe hs hf, fun B F env σ H D st p => ?_⟩
  show t σ H fun x H1 => D.nx (σ.set i (some x)) H1
  exact outE se st p fun r F1 H1 v p1 g q => snd_put st g q p1
def sIf (c : VEnv → Rs Bool) (f g : VEnv → Out) : VEnv → Out := fun env => (c env).out env fun b => if b = true then f env else g env
theorem vs_if {c : Expr} {ss tt : List Stmt} {tc : VEnv → Rs Bool} (hc : VT ca W X c tc) (ha : VSs ca W X ss f) (hb : VSs ca W X tt g) : VS ca W X (.If c ss tt pos) (sIf tc f g) := by
  obtain ⟨t, pe, se⟩ := hc
  obtain ⟨ta, pa, sa⟩ := ha
  obtain ⟨tb, pb, sb⟩ := hb
  refine ⟨_, ps_if pe pa pb, fun B F env σ H D st p => ?_⟩
  show t σ H fun b H1 => if b = true then ta D σ H1 else tb D σ H1
  refine outT se st p fun b F1 H1 p1 g => ?_
  cases b with
  | true => rw [if_pos rfl]; rw [if_pos rfl] at p1; exact sa B F1 env σ H1 D (st.grow g) p1
  | false => rw [if_neg Bool.false_ne_true]; rw [if_neg Bool.false_ne_true] at p1; exact sb B F1 env σ H1 D (st.grow g) p1
structure JWalk (J : It) (G : Hp) (vs : List V) : Prop where
  go : ∀ i H, SameN G H → i < vs.length → J.go i H
  yld : ∀ i H x H', SameN G H → J.yld i H x H' → i < vs.length → H' = H ∧ vs[i]? = some x
  stop : ∀ H, SameN G H → J.stop vs.length H
theorem jw_list {K : PySem.W.Frag} {G : Hp} {a : Addr} {vs : List V} (h : SqL K G a vs) : JWalk (Itl K a) G vs where
  go := fun i H s hi => ⟨vs, vs[i], s.seq h, by simp [hi]⟩
  yld := fun i H x H' s y hi => ⟨y.1, y.2 vs (s.seq h)⟩
  stop := fun H s => ⟨vs, s.seq h, Nat.le_refl _⟩
theorem jw_tup {K : PySem.W.Frag} {G : Hp} {a : Addr} {vs : List V} (h : SqT K G a vs) : JWalk (Itt K a) G vs where
  go := fun i H s hi => ⟨vs, vs[i], s.seqT h, by simp [hi]⟩
  yld := fun i H x H' s y hi => ⟨y.1, y.2 vs (s.seqT h)⟩
  stop := fun H s => ⟨vs, s.seqT h, Nat.le_refl _⟩
def rngL (lo : Int) (n : Nat) : List PyData := (List.range n).map fun i : Nat => .int (lo + (i : Int))
theorem jw_rng {G : Hp} (lo : Int) (n : Nat) : JWalk (Itr lo n) G ((List.range n).map fun i : Nat => V.int (lo + (i : Int))) where
  go := fun i H s hi => by
    have hi' : i < n := by simpa using hi
    exact hi'
  yld := fun i H x H' s y hi => by
    have hi' : i < n := by simpa using hi
    refine ⟨y.1, ?_⟩
    rw [y.2, List.getElem?_map, List.getElem?_range hi']
    rfl
  stop := fun H s => by show n ≤ _; simp
def PostI (K : PySem.W.Frag) (ca : CA) (W : WX) (σ : L2.St) (F H : Hp) (R : It → Hp → Prop) : Rs (List PyData) → Prop
  | .ok xs => ∀ J F' H' vs, Grow F H F' H' → DqA K F' vs xs → JWalk J F' vs → R J H'
  | .ex c fs => PostX K ca W σ F H c fs
  | .no => False
def SndI (K : PySem.W.Frag) (ca : CA) (W : WX) (t : TI) (f : VEnv → Rs (List PyData)) : Prop := ∀ B F env σ H R, StOk K ca B F env σ H → PostI K ca W σ F H R (f env) → t σ H R
structure VI (ca : CA) (W : WX) (X : Cx) (tg iter : Expr) (f : VEnv → Rs (List PyData)) : Prop where
  ex : ∃ t, PI X tg iter t ∧ SndI X.K ca W t f
def PostJ (K : PySem.W.Frag) (ca : CA) (W : WX) (σ : L2.St) (F H : Hp) (R : It → Hp → Prop) : Rs (List PyData) → Prop
  | .ok xs => ∀ J F' H' vs, Grow F H F' H' → DqA K F' vs xs → JWalk J H' vs → R J H'
  | .ex c fs => PostX K ca W σ F H c fs
  | .no => False
def SndJ (K : PySem.W.Frag) (ca : CA) (W : WX) (t : TI) (f : VEnv → Rs (List PyData)) : Prop := ∀ B F env σ H R, StOk K ca B F env σ H → PostJ K ca W σ F H R (f env) → t σ H R
structure VJ (ca : CA) (W : WX) (X : Cx) (tg iter : Expr) (f : VEnv → Rs (List PyData)) : Prop where
  ex : ∃ t, PI X tg iter t ∧ SndJ X.K ca W t f
theorem JWalk.up {J : It} {G G' : Hp} {vs : List V} (h : JWalk J G vs) (s : Same G G') : JWalk J G' vs :=
  ⟨fun i H q => h.go i H (s.n.trans q), fun i H x H' q => h.yld i H x H' (s.n.trans q), fun H q => h.stop H (s.n.trans q)⟩
def gL : RV → Rs (List PyData)
  | .d (.list xs) => .ok xs
  | .ol xs => .ok xs
  | .sc ns => .ok (ns.map .int)
  | _ => .no
def gT : RV → Rs (List PyData)
  | .d (.tuple xs) => .ok xs
  | _ => .no
def gLb : RV → Rs (List PyData)
  | .bl xs => .ok xs
  | r => gL r
def iL (fe : VEnv → Rs RV) : VEnv → Rs (List PyData) := fun env => (fe env).bind gL
def iT (fe : VEnv → Rs RV) : VEnv → Rs (List PyData) := fun env => (fe env).bind gT
def iLb (fe : VEnv → Rs RV) : VEnv → Rs (List PyData) := fun env => (fe env).bind gLb
theorem vi_list {tg : Expr} (h : VE ca W X e fa) : VI ca W X tg e (iL fa) := by
  obtain ⟨t, p, s⟩ := h
  refine ⟨_, pi_list p, fun B F env σ H R st q => ?_⟩
  show t σ H fun x H1 => ∃ a, x = .ref a ∧ (∃ xs, SqL X.K H1 a xs) ∧ R (Itl X.K a) H1
  refine seqE (PostI X.K ca W σ F H R) s st q (fun _ _ h => h) (fun h => h) fun r F1 H1 v p1 g1 q1 => ?_
  cases r with
  | d x =>
    cases x with
    | list xs =>
      cases q1 with
      | lst h1 h2 => exact ⟨_, rfl, ⟨_, SqL.of (g1.cfg.sub _ _ h1)⟩, p1 _ F1 H1 _ g1 h2 (jw_list (SqL.of h1))⟩
    | _ => exact p1.elim
  | ol xs =>
    obtain ⟨p, vs, rfl, n0, f, hp, q2⟩ := q1
    have g2 := g1.freeze n0 f hp
    have s2 : Same F1 (upd F1 p (.lst vs)) := fun b u k => by rw [upd_ne (ne_of_none k f)]; exact k
    exact ⟨p, rfl, ⟨_, SqL.of hp⟩, p1 _ _ H1 vs g2 (DqA.mono s2 _ _ q2) (jw_list (SqL.of upd_same))⟩
  | sc ns =>
    obtain ⟨a, rfl, q2⟩ := q1
    exact ⟨a, rfl, ⟨_, g1.cfg.sub.seq q2⟩, p1 _ F1 H1 _ g1 (DqA.of_ints ns) (jw_list q2)⟩
  | _ => exact p1.elim
theorem DqA.rng {K : PySem.W.Frag} {F : Hp} (lo : Int) (n : Nat) : DqA K F ((List.range n).map fun i : Nat => V.int (lo + (i : Int))) (rngL lo n) := by
  have := DqA.of_ints (K := K) (F := F) ((List.range n).map fun i : Nat => lo + (i : Int))
  rw [List.map_map, List.map_map] at this
  exact this
def gR1 : List RV → Rs (List PyData)
  | [.d (.int j)] => if j.natAbs ≤ 1000000 then .ok (rngL 0 j.toNat) else .no
  | _ => .no
def gR2 : List RV → Rs (List PyData)
  | [.d (.int i), .d (.int j)] => if i.natAbs ≤ 1000000 ∧ j.natAbs ≤ 1000000 then .ok (rngL i (j - i).toNat) else .no
  | _ => .no
def iR (g : List RV → Rs (List PyData)) (fe : VEnv → Rs (List RV)) : VEnv → Rs (List PyData) := fun env => (fe env).bind g
theorem vi_range1 {tg : Expr} {p pos : Pos} {f : VEnv → Rs (List RV)} (hg : Gl X "range") (hm : X.mg "range" = none) (ha : VA ca W X [a] f) (hs : starEach [a] X.env = [(false, eval a X.env)] := by rfl) : VI ca W X tg (.Call (.Name "range" p) [a] [] pos) (iR gR1 f) := by
  obtain ⟨t, pa, sa⟩ := ha
  refine ⟨_, pi_range1 hg hm pa hs, fun B F env σ H R st q => ?_⟩
  show t σ H fun vs H1 => ∃ j : Int, vs = [.int j] ∧ -(2 ^ 62) ≤ j ∧ j < 2 ^ 62 ∧ R (Itr 0 j.toNat) H1
  refine seqA (PostI X.K ca W σ F H R) sa st q (fun _ _ h => h) (fun h => h) fun rs F1 H1 vs p1 g1 q1 => ?_
  unfold gR1 at p1
  split at p1
  · rename_i j
    split at p1
    · rename_i hj
      cases q1 with
      | cons h1 h2 =>
        cases h2
        cases h1
        exact ⟨j, rfl, by omega, by omega, p1 _ F1 H1 _ g1 (DqA.rng 0 j.toNat) (jw_rng 0 j.toNat)⟩
    · exact p1.elim
  · exact p1.elim
theorem vi_range2 {tg : Expr} {p pos : Pos} {f : VEnv → Rs (List RV)} (hg : Gl X "range") (hm : X.mg "range" = none) (ha : VA ca W X [a, b] f) (hs : starEach [a, b] X.env = [(false, eval a X.env), (false, eval b X.env)] := by rfl) (hs2 : starEach [b] X.env = [(false, eval b X.env)] := by rfl) : VI ca W X tg (.Call (.Name "range" p) [a, b] [] pos) (iR gR2 f) := by
  obtain ⟨t, pa, sa⟩ := ha
  refine ⟨_, pi_range2 hg hm pa hs hs2, fun B F env σ H R st q => ?_⟩
  show t σ H fun vs H1 => ∃ i j : Int, vs = [.int i, .int j] ∧ (-(2 ^ 62) ≤ i ∧ i < 2 ^ 62 ∧ -(2 ^ 62) ≤ j ∧ j < 2 ^ 62) ∧ R (Itr i (j - i).toNat) H1
  refine seqA (PostI X.K ca W σ F H R) sa st q (fun _ _ h => h) (fun h => h) fun rs F1 H1 vs p1 g1 q1 => ?_
  unfold gR2 at p1
  split at p1
  · rename_i i j
    split at p1
    · rename_i hj
      cases q1 with
      | cons h1 h2 =>
        cases h2 with
        | cons h3 h4 =>
          cases h4
          cases h1
          cases h3
          exact ⟨i, j, rfl, by omega, p1 _ F1 H1 _ g1 (DqA.rng i _) (jw_rng i _)⟩
    · exact p1.elim
  · exact p1.elim
inductive Tg where
  | nm (i : Nat) | tp (is : List Nat)
def tgEs : List Nat → List PyData → VEnv → Option VEnv
  | [], [], env => some env
  | i :: is, x :: xs, env => if i < env.length then tgEs is xs (env.set i (some (.d x))) else none
  | _, _, _ => none
def tgE : Tg → PyData → VEnv → Option VEnv
  | .nm i, x, env => if i < env.length then some (env.set i (some (.d x))) else none
  | .tp is, .tuple xs, env => tgEs is xs env
  | .tp _, _, _ => none
def gNms : List Nat → TGs
  | [] => gNil
  | i :: is => gCons (gName i) (gNms is)
def tgT (K : PySem.W.Frag) : Tg → TG
  | .nm i => gName i
  | .tp is => gTup K is.length (gNms is)
def setAll : List Nat → List V → L2.St → L2.St
  | i :: is, v :: vs, σ => setAll is vs (σ.set i (some v))
  | _, _, σ => σ
theorem StOk.putD {K : PySem.W.Frag} {B : Base} {F H : Hp} {env : VEnv} {σ : L2.St} (st : StOk K ca B F env σ H) {i : Nat} (hi : i < env.length) {v : V} {x : PyData} (q : Dq K F v x) : StOk K ca B F (env.set i (some (.d x))) (σ.set i (some v)) H :=
  st.put0 hi q rfl rfl
theorem snd_tgs {K : PySem.W.Frag} {B : Base} {F H : Hp} : ∀ {is : List Nat} {xs : List PyData} {vs : List V} {env env' : VEnv} {σ : L2.St} {Q : L2.St → Hp → Prop}, StOk K ca B F env σ H → DqA K F vs xs → tgEs is xs env = some env' → (StOk K ca B F env' (setAll is vs σ) H → Q (setAll is vs σ) H) → gNms is vs σ H Q
  | [], [], _, env, env', σ, Q, st, q, e, h => by cases q; cases e; exact ⟨rfl, h st⟩
  | [], _ :: _, _, env, env', σ, Q, st, q, e, h => by cases e
  | i :: is, [], _, env, env', σ, Q, st, q, e, h => by cases e
  | i :: is, x :: xs, _, env, env', σ, Q, st, q, e, h => by
    cases q with
    | cons h1 h2 =>
      rename_i v vs
      unfold tgEs at e
      split at e
      · rename_i hi
        exact ⟨v, vs, rfl, snd_tgs (st.putD hi h1) h2 e h⟩
      · cases e
def tgIx : Tg → List Nat
  | .nm i => [i]
  | .tp is => is
def tgSt (tg : Tg) (v : V) (vs : List V) (σ : L2.St) : L2.St := match tg with
  | .nm i => σ.set i (some v)
  | .tp is => setAll is vs σ
theorem snd_tg {K : PySem.W.Frag} {B : Base} {F H : Hp} {tg : Tg} {x : PyData} {v : V} {env env' : VEnv} {σ : L2.St} {Q : L2.St → Hp → Prop} (st : StOk K ca B F env σ H) (q : Dq K F v x) (e : tgE tg x env = some env') (h : ∀ vs, StOk K ca B F env' (tgSt tg v vs σ) H → Q (tgSt tg v vs σ) H) : tgT K tg v σ H Q := by
  cases tg with
  | nm i =>
    by_cases hi : i < env.length
    · have e' : some (env.set i (some (.d x))) = some env' := by simpa [tgE, hi] using e
      cases e'
      exact h [] (st.putD hi q)
    · simp [tgE, hi] at e
  | tp is =>
    cases x with
    | tuple xs =>
      cases q with
      | tup h1 h2 =>
        rename_i a vs
        refine ⟨a, vs, rfl, same_seqT st.cfg.sub h1.1, ?_, snd_tgs st h2 e (h vs)⟩
        rw [h2.length]
        have : ∀ (is : List Nat) (xs : List PyData) (env : VEnv), tgEs is xs env = some env' → xs.length = is.length := by
          intro is
          induction is with
          | nil => intro xs env e; cases xs with
            | nil => rfl
            | cons _ _ => cases e
          | cons i is ih => intro xs env e; cases xs with
            | nil => cases e
            | cons x xs =>
              unfold tgEs at e
              split at e
              · simp [ih xs _ e]
              · cases e
        exact this is xs env e
    | _ => cases e
structure VG (X : Cx) (target : Expr) (tg : Tg) : Prop where
  ex : PG X target (tgT X.K tg)
structure VGs (X : Cx) (es : List Expr) (is : List Nat) : Prop where
  ex : PGs X es (gNms is)
theorem vg_name {i : Nat} {x : Str} (hN : X.N.Nodup) (hi : X.N[i]? = some x) (hx : Loc X.env.scope x) (hf : X.fn x = true ∨ X.env.scope.names.lookup x = some .local := by first | exact .inl rfl | exact .inr rfl | assumption) : VG X (.Name x pos) (.nm i) := ⟨pg_name hN hi hx hf⟩
theorem vgs_nil : VGs X [] [] := ⟨pgs_nil⟩
theorem vgs_cons {i : Nat} {x : Str} {is : List Nat} (hN : X.N.Nodup) (hi : X.N[i]? = some x) (hx : Loc X.env.scope x) (h2 : VGs X es is) (hf : X.fn x = true ∨ X.env.scope.names.lookup x = some .local := by first | exact .inl rfl | exact .inr rfl | assumption)
    (hs : (assignEach (.Name x pos :: es) X.env).map (·.2) = assign (.Name x pos) X.env :: (assignEach es X.env).map (·.2) := by rfl) : VGs X (.Name x pos :: es) (i :: is) := ⟨pgs_cons (pg_name hN hi hx hf) h2.ex hs⟩
theorem vg_tup {k : Nat} {is : List Nat} (hc : X.calm = true) (h : VGs X es is) (hn : (assignEach es X.env).length = is.length := by rfl) (hst : (assignEach es X.env).findIdx? (·.1) = none := by rfl) : VG X (.Tuple es k pos) (.tp is) := ⟨pg_tup hc h.ex hn hst⟩
def sUnp (tg : Tg) (fe : VEnv → Rs RV) : VEnv → Out := fun env => (fe env).out env fun r => match r.toD with
  | some x => (match tgE tg x env with | some env' => .nx env' | none => .no)
  | none => .no
theorem vs_unp {tg : Expr} {g : Tg} (he : VE ca W X e fa) (hg : VG X tg g) (hs : swapsWithSole [tg] e pos.line X.env = pure false := by rfl) (hw : swappedStores [tg] e X.env = pure none := by rfl)
    (h1 : (assignEach [tg] X.env).map (·.2) = [assign tg X.env] := by rfl) : VS ca W X (.Assign [tg] e pos) (sUnp g fa) := by
  obtain ⟨t, pe, se⟩ := he
  refine ⟨_, ps_asg pe hg.ex hs hw h1, fun B F env σ H D st p => ?_⟩
  show t σ H fun x H1 => tgT X.K g x σ H1 D.nx
  refine outE se st p fun r F1 H1 v p1 gg q => ?_
  cases e1 : r.toD with
  | none => rw [e1] at p1; exact p1.elim
  | some x =>
    rw [e1] at p1
    obtain ⟨F2, g2, s2, q2⟩ := frz gg (Fz.of q e1)
    simp only at p1
    cases e2 : tgE g x env with
    | none => rw [e2] at p1; exact p1.elim
    | some env' => rw [e2] at p1; exact snd_tg (st.grow g2) q2 e2 fun vs st' => p1 F2 _ H1 s2 st'
def loopF (tg : Tg) (f : VEnv → Out) : List PyData → VEnv → Out
  | [], env => .nx env
  | x :: xs, env => match tgE tg x env with
    | none => .no
    | some e1 => match f e1 with
      | .nx e => loopF tg f xs e
      | .ct e => loopF tg f xs e
      | .bk e => .nx e
      | o => o
def sFor (tg : Tg) (src : VEnv → Rs (List PyData)) (f : VEnv → Out) : VEnv → Out := fun env => (src env).out env fun xs => loopF tg f xs env
theorem drop_cons {α : Type} {xs : List α} {i : Nat} {x : α} (h : xs[i]? = some x) : xs.drop i = x :: xs.drop (i + 1) := by
  obtain ⟨h1, h2⟩ := List.getElem?_eq_some_iff.mp h
  rw [← h2]
  exact List.drop_eq_getElem_cons h1
theorem vs_for {tg iter : Expr} {body : List Stmt} {src : VEnv → Rs (List PyData)} {g : Tg} (hp : PassesOwn (model X.prog X.w) X.A X.env X.xe) (hc : X.calm = true) (hi : VI ca W X tg iter src) (hg : VG X tg g) (hb : VSs ca W X body f)
    (hs : ∀ x, foldedSetIterable iter X.env x = pure x := by intro _; rfl) : VS ca W X (.For tg iter body [] pos) (sFor g src f) := by
  obtain ⟨t, pi, si⟩ := hi
  obtain ⟨tb, pb, sb⟩ := hb
  refine ⟨_, ps_for hp hc pi hg.ex pb hs, fun B F env σ H D st p => ?_⟩
  refine si B F env σ H _ st ?_
  unfold sFor at p
  cases e : src env with
  | no => rw [e] at p; exact p
  | ex c fs => rw [e] at p; exact exOut st p
  | ok xs =>
    rw [e] at p
    intro J F1 H1 vs g1 d1 jw
    refine ⟨fun i m σ H => m = vs.length - i ∧ i ≤ vs.length ∧ ∃ F' env', Same F1 F' ∧ StOk X.K ca B F' env' σ H ∧ PostS X.K ca W B F' D (loopF g f (xs.drop i) env'), ⟨_, rfl, Nat.zero_le _, F1, env, Same.refl _, st.grow g1, PostS.mono g1.ff p⟩, ?_⟩
    rintro i m σ2 H2 ⟨rfl, hi, F2, env2, s2, st2, p2⟩
    have s3 : Same F1 H2 := s2.trans st2.cfg.sub
    by_cases hlt : i < vs.length
    · obtain ⟨x, hx, qx⟩ := DqA.get' d1 (List.getElem?_eq_getElem hlt)
      rw [drop_cons hx] at p2
      unfold loopF at p2
      refine .inr ⟨jw.go i H2 s3.n hlt, fun σ' H' => ∃ F' env', Same F1 F' ∧ StOk X.K ca B F' env' σ' H' ∧ PostS X.K ca W B F' D (loopF g f (xs.drop (i + 1)) env'), fun σ' H' z => ⟨vs.length - (i + 1), by omega, rfl, hlt, z⟩, fun y H' hy => ?_⟩
      obtain ⟨rfl, e2⟩ := jw.yld i H2 y H' s3.n hy hlt
      rw [List.getElem?_eq_getElem hlt] at e2
      cases e2
      cases e3 : tgE g x env2 with
      | none => rw [e3] at p2; exact p2.elim
      | some env3 =>
        rw [e3] at p2
        simp only at p2
        refine snd_tg st2 (qx.mono s2) e3 fun ws st3 => ?_
        refine sb B F2 env3 _ _ _ st3 ?_
        cases e4 : f env3 with
        | nx env' => rw [e4] at p2; exact fun F' σ' H' s st' => ⟨F', env', s2.trans s, st', PostS.mono s p2⟩
        | ct env' => rw [e4] at p2; exact fun F' σ' H' s st' => ⟨F', env', s2.trans s, st', PostS.mono s p2⟩
        | bk env' => rw [e4] at p2; exact p2
        | rt r => rw [e4] at p2; exact p2
        | rm o d => rw [e4] at p2; exact p2
        | rp x fs d => rw [e4] at p2; exact p2
        | ex c fs env' => rw [e4] at p2; exact p2
        | no => rw [e4] at p2; exact p2
    · have e5 : i = vs.length := by omega
      subst e5
      rw [List.drop_eq_nil_of_le (by rw [d1.length]; exact Nat.le_refl _)] at p2
      exact .inl ⟨jw.stop H2 s3.n, p2 F2 σ2 H2 (Same.refl _) st2⟩
end
end VL
namespace VL
open PySem PySem.Spec PyProof.Rows L2
abbrev W0 : WX := fun _ _ _ _ => False
section
variable {ca : CA} {W : WX} {X : Cx} {a b e : Expr} {es : List Expr} {fa fb : VEnv → Rs RV} {pos : Pos} {st : Stmt} {rest : List Stmt} {f g : VEnv → Out}
def wipeE (env : VEnv) : List Nat → VEnv
  | [] => env
  | v :: vs => (wipeE env vs).set v none
theorem wipe_ok {K : PySem.W.Frag} {B : Base} {F H : Hp} {env : VEnv} {σ : L2.St} (st : StOk K ca B F env σ H) : ∀ vs : List Nat, StOk K ca B F (wipeE env vs) (wipe σ vs) H
  | [] => st
  | v :: vs => (wipe_ok st vs).drop v
theorem wipe_get {σ : L2.St} {i : Nat} {vs : List Nat} (h : i ∈ vs) : (wipe σ vs)[i]? = some none ∨ (wipe σ vs)[i]? = none := by
  cases e : (wipe σ vs)[i]? with
  | none => exact .inr rfl
  | some o =>
    cases o with
    | none => exact .inl rfl
    | some v => exact absurd h (wipe_some e).2
theorem wipe_all {σ σ' : L2.St} {vs : List Nat} (hl : σ'.length = σ.length) (h : ∀ i, i ∉ vs → σ'[i]? = σ[i]?) : wipe σ' vs = wipe σ vs := by
  apply List.ext_getElem?
  intro i
  by_cases hi : i ∈ vs
  · have l1 := wipe_length σ' vs
    have l2 := wipe_length σ vs
    rcases wipe_get (σ := σ') hi with h1 | h1 <;> rcases wipe_get (σ := σ) hi with h2 | h2
    · rw [h1, h2]
    · have a1 := (List.getElem?_eq_some_iff.mp h1).1
      have a2 := List.getElem?_eq_none_iff.mp h2
      omega
    · have a1 := (List.getElem?_eq_some_iff.mp h2).1
      have a2 := List.getElem?_eq_none_iff.mp h1
      omega
    · rw [h1, h2]
  · rw [wipe_out hi, wipe_out hi]
    exact h i hi
theorem wipe_wipe {σ : L2.St} (vs : List Nat) : wipe (wipe σ vs) vs = wipe σ vs := wipe_all (wipe_length σ vs) fun i hi => wipe_out hi
theorem setAll_len : ∀ (is : List Nat) (vs : List V) (σ : L2.St), (setAll is vs σ).length = σ.length
  | [], _, σ => by unfold setAll; rfl
  | i :: is, [], σ => by unfold setAll; rfl
  | i :: is, v :: vs, σ => by unfold setAll; rw [setAll_len is vs]; simp
theorem setAll_get : ∀ (is : List Nat) (vs : List V) (σ : L2.St) (j : Nat), j ∉ is → (setAll is vs σ)[j]? = σ[j]?
  | [], _, σ, j, _ => by unfold setAll; rfl
  | i :: is, [], σ, j, _ => by unfold setAll; rfl
  | i :: is, v :: vs, σ, j, h => by
    unfold setAll
    rw [setAll_get is vs _ j (fun z => h (List.mem_cons_of_mem _ z)), List.getElem?_set_ne (fun z => h (by subst z; exact List.mem_cons_self))]
theorem tgSt_wipe {tg : Tg} {v : V} {vs : List V} {σ : L2.St} {own : List Nat} (h : ∀ i ∈ tgIx tg, i ∈ own) : wipe (tgSt tg v vs (wipe σ own)) own = wipe σ own := by
  rw [← wipe_wipe (σ := σ) own]
  cases tg with
  | nm i =>
    rw [wipe_wipe]
    refine (wipe_all (σ' := (wipe σ own).set i (some v)) (σ := wipe σ own) (by simp) fun j hj => ?_).trans (wipe_wipe own)
    have hij : i ≠ j := fun z => by subst z; exact hj (h i (by simp [tgIx]))
    rw [List.getElem?_set_ne hij]
  | tp is =>
    rw [wipe_wipe]
    refine (wipe_all (σ' := setAll is vs (wipe σ own)) (σ := wipe σ own) (setAll_len is vs _) fun j hj => ?_).trans (wipe_wipe own)
    exact setAll_get is vs _ j fun z => hj (h j z)
structure VTs (ca : CA) (W : WX) (X : Cx) (ifs : List Expr) (f : VEnv → Rs Bool) : Prop where
  ex : ∃ t, PTs X ifs t ∧ SndT X.K ca W t f
def bYes : VEnv → Rs Bool := fun _ => .ok true
theorem vts_nil : VTs ca W X [] bYes := ⟨_, pts_nil, fun _ _ _ _ _ _ st p => p _ _ (Grow.refl st.cfg)⟩
def lcF (tg : Tg) (t : VEnv → Rs Bool) (fe : VEnv → Rs RV) (env : VEnv) : List PyData → Rs (List PyData)
  | [] => .ok []
  | x :: xs => match tgE tg x env with
    | none => .no
    | some e1 => match t e1 with
      | .ok true => (match fe e1 with
        | .ok r => (match r.toD with
          | some d => (lcF tg t fe env xs).bind fun ds => .ok (d :: ds)
          | none => .no)
        | _ => .no)
      | .ok false => lcF tg t fe env xs
      | _ => .no
theorem lcF_ex {tg : Tg} {t : VEnv → Rs Bool} {fe : VEnv → Rs RV} {env : VEnv} {c : Nat} {fs : List (Str × PyData)} : ∀ xs : List PyData, lcF tg t fe env xs ≠ .ex c fs
  | [], h => by cases h
  | x :: xs, h => by
    have ih := lcF_ex (tg := tg) (t := t) (fe := fe) (env := env) (c := c) (fs := fs) xs
    unfold lcF at h
    split at h
    · cases h
    · split at h
      · split at h
        · split at h
          · cases e : lcF tg t fe env xs with
            | ok ds => rw [e] at h; cases h
            | ex c' fs' => rw [e] at h; simp at h; exact ih (by rw [e, h.1, h.2])
            | no => rw [e] at h; cases h
          · cases h
        · cases h
      · exact ih h
      · cases h
def cLc (src : VEnv → Rs (List PyData)) (own : List Nat) (tg : Tg) (t : VEnv → Rs Bool) (fe : VEnv → Rs RV) : VEnv → Rs RV := fun env => (src env).bind fun xs => if xs.length ≤ 1000000 then (lcF tg t fe (wipeE env own) xs).bind fun ds => .ok (.ol ds) else .no
theorem million {n : Nat} (h : n ≤ 1000000) : n < sizeLine := Nat.lt_of_le_of_lt h (by decide)
theorem snd_lc {K : PySem.W.Frag} {wi : TI} {tt : TT} {te : TE} {src : VEnv → Rs (List PyData)} {own : List Nat} {tg : Tg} {t : VEnv → Rs Bool} {fe : VEnv → Rs RV} (ho : ∀ i ∈ tgIx tg, i ∈ own) (si : SndJ K ca W wi src) (s1 : SndT K ca W0 tt t) (s2 : SndE K ca W0 te fe) :
    SndE K ca W (tLc wi (tgT K tg) tt te own) (cLc src own tg t fe) := by
  intro B F env σ H Q st p
  refine si B F env σ H _ st ?_
  unfold cLc at p
  cases e : src env with
  | no => rw [e] at p; exact p
  | ex c fs => rw [e] at p; exact p
  | ok xs =>
    rw [e] at p
    simp only [Rs.bind_ok] at p
    split at p
    · rename_i hz
      cases e2 : lcF tg t fe (wipeE env own) xs with
      | no => rw [e2] at p; exact p.elim
      | ex c fs => exact absurd e2 (lcF_ex xs)
      | ok res =>
        rw [e2] at p
        intro J F1 H1 vs g1 d1 jw D nD
        have stw : StOk K ca B F1 (wipeE env own) (wipe σ own) H1 := wipe_ok (st.grow g1) own
        have fD : F1 D = none := same_none g1.cfg.sub nD
        refine ⟨fun i m H => m = vs.length - i ∧ i ≤ vs.length ∧ ∃ F' acc ds rs, Grow F1 H1 F' H ∧ F' D = none ∧ H D = some (.lst acc) ∧ DqA K F' acc ds ∧ lcF tg t fe (wipeE env own) (xs.drop i) = .ok rs ∧ ds ++ rs = res ∧ ds.length ≤ i,
          ⟨_, rfl, Nat.zero_le _, F1, [], [], res, Grow.newO g1.cfg _ nD (fun _ z => by cases z), fD, upd_same, .nil, e2, rfl, Nat.le_refl _⟩, ?_⟩
        rintro i m H2 ⟨rfl, hi, F2, acc, ds, rs, g2, f2, hD, q2, er, es, dl⟩
        by_cases hlt : i < vs.length
        · obtain ⟨x, hx, qx⟩ := DqA.get' d1 (List.getElem?_eq_getElem hlt)
          rw [drop_cons hx] at er
          unfold lcF at er
          refine .inr ⟨jw.go i H2 g2.hh hlt, fun H => i + 1 ≤ vs.length ∧ ∃ F' acc ds rs, Grow F1 H1 F' H ∧ F' D = none ∧ H D = some (.lst acc) ∧ DqA K F' acc ds ∧ lcF tg t fe (wipeE env own) (xs.drop (i + 1)) = .ok rs ∧ ds ++ rs = res ∧ ds.length ≤ i + 1,
            fun H' z => ⟨vs.length - (i + 1), by omega, rfl, z.1, z.2⟩, fun y H' hy => ?_⟩
          obtain ⟨rfl, e5⟩ := jw.yld i H2 y H' g2.hh hy hlt
          rw [List.getElem?_eq_getElem hlt] at e5
          cases e5
          cases e3 : tgE tg x (wipeE env own) with
          | none => rw [e3] at er; cases er
          | some env3 =>
            rw [e3] at er
            simp only at er
            refine snd_tg (stw.grow g2) (qx.mono g2.ff) e3 fun ws st3 => ⟨tgSt_wipe ho, ?_⟩
            refine s1 B F2 env3 _ _ _ st3 ?_
            cases e4 : t env3 with
            | no => rw [e4] at er; cases er
            | ex c fs => rw [e4] at er; cases er
            | ok b =>
              rw [e4] at er
              intro F4 H4 g4
              have f4 : F4 D = none := g4.stillFree f2 hD
              cases b with
              | false =>
                rw [if_neg Bool.false_ne_true]
                exact ⟨hlt, F4, acc, ds, rs, g2.trans g4, f4, g4.hh _ _ hD, DqA.mono g4.ff _ _ q2, er, es, by omega⟩
              | true =>
                rw [if_pos rfl]
                simp only at er
                refine s2 B F4 env3 _ H4 _ (st3.grow g4) ?_
                cases e6 : fe env3 with
                | no => rw [e6] at er; cases er
                | ex c fs => rw [e6] at er; cases er
                | ok r =>
                  rw [e6] at er
                  simp only at er
                  cases e7 : r.toD with
                  | none => rw [e7] at er; cases er
                  | some d =>
                    rw [e7] at er
                    simp only at er
                    cases e8 : lcF tg t fe (wipeE env own) (xs.drop (i + 1)) with
                    | no => rw [e8] at er; cases er
                    | ex c fs => rw [e8] at er; cases er
                    | ok rs' =>
                      rw [e8] at er
                      simp at er
                      intro F6 H6 v6 g6 q6
                      obtain ⟨F7, g7, s7, q7⟩ := frz g6 (Fz.of q6 e7)
                      have g8 : Grow F1 H1 F7 H6 := (g2.trans g4).trans g7
                      have h6 : H6 D = some (.lst acc) := g7.hh _ _ (g4.hh _ _ hD)
                      have f7 : F7 D = none := g7.stillFree f4 (g4.hh _ _ hD)
                      have qa : DqA K F7 acc ds := DqA.mono g7.ff _ _ (DqA.mono g4.ff _ _ q2)
                      have al : acc.length = ds.length := qa.length
                      refine ⟨acc, h6, million (by have := d1.length; omega), hlt, F7, acc ++ [v6], ds ++ [d], rs', g8.write nD f7 h6 (fun _ z => by cases z), f7, upd_same, qa.append (.cons q7 .nil), rfl, ?_, by simp; omega⟩
                      rw [← es, ← er]
                      simp
        · have e5 : i = vs.length := by omega
          subst e5
          rw [List.drop_eq_nil_of_le (by rw [d1.length]; exact Nat.le_refl _)] at er
          cases er
          rw [List.append_nil] at es
          subst es
          exact .inl ⟨jw.stop H2 g2.hh, p F2 H2 (.ref D) (g1.trans g2) ⟨D, acc, rfl, none_n g1.hh nD, f2, hD, q2⟩⟩
    · exact p.elim
def tU (K : PySem.W.Frag) (ca : CA) (W : WX) (f : VEnv → Rs RV) : TE := fun σ H Q => ∃ B F env, StOk K ca B F env σ H ∧ PostE K ca W σ F H Q (f env)
def tUT (K : PySem.W.Frag) (ca : CA) (W : WX) (f : VEnv → Rs Bool) : TT := fun σ H Q => ∃ B F env, StOk K ca B F env σ H ∧ PostB K ca W σ F H Q (f env)
theorem VE.pe {f : VEnv → Rs RV} (h : VE ca W X e f) : PE X e (tU X.K ca W f) := by
  obtain ⟨t, p, s⟩ := h
  exact ⟨fun pins s0 σ H Q I ⟨B, F, env, st, q⟩ => p.run pins s0 σ H Q I (s B F env σ H Q st q)⟩
theorem VTs.pt {ifs : List Expr} {f : VEnv → Rs Bool} (h : VTs ca W X ifs f) : PTs X ifs (tUT X.K ca W f) := by
  obtain ⟨t, p, s⟩ := h
  exact ⟨fun pins s0 σ H Q I ⟨B, F, env, st, q⟩ => p.run pins s0 σ H Q I (s B F env σ H Q st q)⟩
theorem vs_setLc {i : Nat} {y : Str} {py : Pos} {elt tg iter : Expr} {ifs : List Expr} {scope : Scope} {own : List (Str × Nat)} {spos : Pos} {src : VEnv → Rs (List PyData)} {g : Tg} {t : VEnv → Rs Bool} {fe : VEnv → Rs RV} (hc : X.calm = true) (hN : X.N.Nodup) (hy : X.N[i]? = some y) (hyl : X.env.scope.names.lookup y = some .local)
    (hsw : swapsWith (.ListComp elt [⟨tg, iter, ifs, 0⟩] scope pos) (some (.Name y py)) spos.line X.env = pure true) (hi : VJ ca W X tg iter src) (ok : BlkOk X.N X.env.scope scope own) (ho : ∀ i ∈ tgIx g, i ∈ own.map (·.2))
    (hg : ∀ (s : Shared) (H : Hp) (C : Addr) (cl : List (Str × Addr)) (fp : List Addr), VG (X.blk s H scope (compEnvC scope cl C X.env) fp) tg g) (ht : ∀ (s : Shared) (H : Hp) (C : Addr) (cl : List (Str × Addr)) (fp : List Addr), VTs ca W0 (X.blk s H scope (compEnvC scope cl C X.env) fp) ifs t)
    (he : ∀ (s : Shared) (H : Hp) (C : Addr) (cl : List (Str × Addr)) (fp : List Addr), VE ca W0 (X.blk s H scope (compEnvC scope cl C X.env) fp) elt fe) (hs : ∀ x, foldedSetIterable iter X.env x = pure x := by intro _; rfl) :
    VS ca W X (.Assign [.Name y py] (.ListComp elt [⟨tg, iter, ifs, 0⟩] scope pos) spos) (sSet i (cLc src (own.map (·.2)) g t fe)) := by
  obtain ⟨wi, pi, si⟩ := hi
  refine ⟨_, ps_setLc hc hN hy hyl hsw pi ok (fun s H C cl fp => (show PG _ tg (tgT X.K g) from (hg s H C cl fp).ex)) (fun s H C cl fp => (show PTs _ ifs (tUT X.K ca W0 t) from (ht s H C cl fp).pt)) (fun s H C cl fp => (show PE _ elt (tU X.K ca W0 fe) from (he s H C cl fp).pe)) hs, fun B F env σ H D st p => ?_⟩
  have se := snd_lc (own := own.map (·.2)) (W := W) ho si (fun B F env σ H Q st q => ⟨B, F, env, st, q⟩ : SndT X.K ca W0 (tUT X.K ca W0 t) t) (fun B F env σ H Q st q => ⟨B, F, env, st, q⟩ : SndE X.K ca W0 (tU X.K ca W0 fe) fe)
  show tLc wi (tgT X.K g) (tUT X.K ca W0 t) (tU X.K ca W0 fe) (own.map (·.2)) σ H fun x H1 => D.nx (σ.set i (some x)) H1
  exact outE se st p fun r F1 H1 v p1 g q => snd_put st g q p1
def RV.arg : RV → RV
  | .ol xs => .d (.list xs)
  | .od xs => .bd xs
  | .ot xs => .bt xs
  | .ob _ x fs => .bo x fs
  | r => r
theorem arg1 {K : PySem.W.Frag} {F0 H0 F H F1 : Hp} {v : V} {r : RV} (g1 : Grow F0 H0 F1 H) (s1 : Same F F1) (h1 : RVok K H0 F H v r) : ∃ F', Grow F0 H0 F' H ∧ Same F1 F' ∧ RVok K H F' H v r.arg := by
  cases r with
  | d x => exact ⟨F1, g1, Same.refl _, Dq.mono s1 x v h1⟩
  | ol xs =>
    obtain ⟨F2, g2, s2, q2⟩ := frz g1 ((Fz.of h1 (d := .list xs) rfl).mono s1)
    exact ⟨F2, g2, s2, q2⟩
  | bl xs => obtain ⟨p, ws, e1, hp, q⟩ := h1; exact ⟨F1, g1, Same.refl _, p, ws, e1, hp, DqA.mono s1 _ _ q⟩
  | od xs => obtain ⟨p, ws, e1, _, _, hp, q⟩ := h1; exact ⟨F1, g1, Same.refl _, p, ws, e1, .inl hp, q.mono s1⟩
  | bd xs => obtain ⟨p, ws, e1, hp, q⟩ := h1; exact ⟨F1, g1, Same.refl _, p, ws, e1, hp, q.mono s1⟩
  | ot xs => obtain ⟨p, ws, e1, _, _, hp, q⟩ := h1; exact ⟨F1, g1, Same.refl _, p, ws, e1, hp, q.mono s1⟩
  | bt xs => obtain ⟨p, ws, e1, hp, q⟩ := h1; exact ⟨F1, g1, Same.refl _, p, ws, e1, hp, q.mono s1⟩
  | sc ns => obtain ⟨a, e1, q⟩ := h1; exact ⟨F1, g1, Same.refl _, a, e1, s1.seq q⟩
  | xo a dd c fs => obtain ⟨e1, xs, hp, q⟩ := h1; exact ⟨F1, g1, Same.refl _, e1, xs, hp, q.mono s1⟩
  | t3 x ys kvs => exact ⟨F1, g1, Same.refl _, t3_mono s1 h1⟩
  | fd kvs => exact ⟨F1, g1, Same.refl _, fd_mono s1 h1⟩
  | ob me x fs => obtain ⟨p, e1, h⟩ := h1; exact ⟨F1, g1, Same.refl _, p, e1, h.bo.to s1 rfl fun q _ ws e => e⟩
  | bo x fs => obtain ⟨p, e1, h⟩ := h1; exact ⟨F1, g1, Same.refl _, p, e1, h.to s1 rfl fun q _ ws e => e⟩
theorem arg_own (r : RV) : r.arg.own = false := by cases r <;> rfl
theorem arg_mono {K : PySem.W.Frag} {H F F' : Hp} (s : Same F F') {v : V} {r : RV} (ho : r.own = false) (h : RVok K H F H v r) : RVok K H F' H v r := by
  cases r with
  | d x => exact Dq.mono s x v h
  | bl xs => obtain ⟨p, ws, e1, hp, q⟩ := h; exact ⟨p, ws, e1, hp, DqA.mono s _ _ q⟩
  | bd xs => obtain ⟨p, ws, e1, hp, q⟩ := h; exact ⟨p, ws, e1, hp, q.mono s⟩
  | bt xs => obtain ⟨p, ws, e1, hp, q⟩ := h; exact ⟨p, ws, e1, hp, q.mono s⟩
  | sc ns => obtain ⟨a, e1, q⟩ := h; exact ⟨a, e1, s.seq q⟩
  | xo a dd c fs => obtain ⟨e1, xs, hp, q⟩ := h; exact ⟨e1, xs, hp, q.mono s⟩
  | t3 x ys kvs => exact t3_mono s h
  | fd kvs => exact fd_mono s h
  | bo x fs => obtain ⟨p, e1, h⟩ := h; exact ⟨p, e1, h.to s rfl fun q _ ws e => e⟩
  | _ => cases ho
theorem args_go {K : PySem.W.Frag} {F0 H0 F H : Hp} : ∀ {vs : List V} {rs : List RV} {F1 : Hp}, Grow F0 H0 F1 H → Same F F1 → Paired (fun v r => RVok K H0 F H v r) vs rs →
    ∃ F', Grow F0 H0 F' H ∧ Same F1 F' ∧ Paired (fun v r => RVok K H F' H v r) vs (rs.map RV.arg)
  | _, _, F1, g, s, .nil => ⟨F1, g, Same.refl _, .nil⟩
  | _, _, F1, g, s, .cons (b := r) h1 h2 => by
    obtain ⟨F2, g2, s2, q2⟩ := arg1 g s h1
    obtain ⟨F3, g3, s3, q3⟩ := args_go g2 (s.trans s2) h2
    exact ⟨F3, g3, s2.trans s3, .cons (arg_mono s3 (arg_own r) q2) q3⟩
def PostF (K : PySem.W.Frag) (ca : CA) (G H : Hp) (Q : VK) (E : XK) : Rs RV → Prop
  | .ok r => ∀ G' H' v, Grow G H G' H' → RVok K H G' H' v r → Q v H'
  | .ex c fs => ∀ G' H' cls dx, Grow G H G' H' → ExOk K ca G' H' cls dx c fs → E cls dx H'
  | .no => False
def spV (K : PySem.W.Frag) (ca : CA) (n : Nat) (F : List RV → Rs RV) : Sp := fun vs H Q E => vs.length = n ∧ ∃ G rs, Cfg G H ∧ TabOk ca.T G H ∧ Paired (fun v r => RVok K H G H v r) vs rs ∧ PostF K ca G H Q E (F rs)
def Out.fin : Out → Rs RV
  | .nx _ => .ok (.d .none)
  | .rt r => .ok r
  | .ex c fs _ => .ex c fs
  | _ => .no
def fnD (n : Nat) (body : VEnv → Out) : List RV → Rs RV := fun rs => (body (rs.map some ++ List.replicate (n - rs.length) none)).fin
theorem start_ok {K : PySem.W.Frag} {ca : CA} {G H : Hp} {vs : List V} {rs : List RV} (N : List Str) (c : Cfg G H) (tb : TabOk ca.T G H) (h : Paired (fun v r => RVok K H G H v r) vs rs) : StOk K ca { F := G, H := H } G (rs.map some ++ List.replicate (N.length - rs.length) none) (start N vs) H := by
  have hl : vs.length = rs.length := Paired.length h
  have get : ∀ (i : Nat) (r : RV), (rs.map some ++ List.replicate (N.length - rs.length) none)[i]? = some (some r) → ∃ v, (start N vs)[i]? = some (some v) ∧ RVok K H G H v r := by
    intro i r e
    by_cases hi : i < rs.length
    · rw [List.getElem?_append_left (by simpa using hi), List.getElem?_map] at e
      have e1 : rs[i]? = some r := by
        cases z : rs[i]? with
        | none => rw [z] at e; cases e
        | some y => rw [z] at e; cases e; rfl
      have go : ∀ {vs : List V} {rs : List RV} {i : Nat}, Paired (fun v r => RVok K H G H v r) vs rs → rs[i]? = some r → ∃ v, vs[i]? = some v ∧ RVok K H G H v r := by
        intro vs rs i h
        induction h generalizing i with
        | nil => intro e; simp at e
        | cons h1 h2 ih => intro e; cases i with
          | zero => simp at e; subst e; exact ⟨_, rfl, h1⟩
          | succ i => obtain ⟨v, q1, q2⟩ := ih (i := i) (by simpa using e); exact ⟨v, by simpa using q1, q2⟩
      obtain ⟨v, q1, q2⟩ := go h e1
      refine ⟨v, ?_, q2⟩
      unfold L2.start
      rw [List.getElem?_append_left (by simpa using (by omega : i < vs.length)), List.getElem?_map, q1]
      rfl
    · rw [List.getElem?_append_right (by simpa using Nat.le_of_not_lt hi), List.getElem?_replicate] at e
      split at e
      · cases e
      · cases e
  have noOwn : ∀ (i : Nat) (r : RV), (rs.map some ++ List.replicate (N.length - rs.length) none)[i]? = some (some r) → r.own = true → False := by
    intro i r e o
    obtain ⟨v, _, q⟩ := get i r e
    cases r with
    | ol xs => obtain ⟨p, ws, _, n, _, hp, _⟩ := q; rw [n] at hp; cases hp
    | od xs => obtain ⟨p, ws, _, n, _, hp, _⟩ := q; rw [n] at hp; cases hp
    | ot xs => obtain ⟨p, ws, _, n, _, hp, _⟩ := q; rw [n] at hp; cases hp
    | ob me x fs => obtain ⟨p, _, C, dx, ws, _, hp, n, _⟩ := q; rw [n] at hp; cases hp
    | _ => cases o
  refine ⟨Grow.refl c, ?_, get, fun i r p e o z => ?_, fun i j r r' p _ e _ o _ _ => (noOwn i r e o).elim,
    ⟨tb, fun i j p q me x fs r e _ _ _ _ => (noOwn i _ e rfl).elim, fun i j p p' q me me' x x' fs fs' _ e _ _ _ _ => (noOwn i _ e rfl).elim, fun i p q x fs e z hq => ?_, fun i x fs e => (noOwn i _ e rfl).elim⟩⟩
  rotate_left
  · obtain ⟨v, e1, q⟩ := get i r e
    rw [z] at e1
    cases e1
    cases r with
    | bl xs => obtain ⟨a, ws, e2, hp, _⟩ := q; cases e2; exact ⟨_, hp⟩
    | bd xs =>
      obtain ⟨a, ws, e2, hp, _⟩ := q
      cases e2
      rcases hp with hp | ⟨o, hp⟩
      · exact ⟨_, hp⟩
      · exact ⟨_, hp⟩
    | bt xs => obtain ⟨a, ws, e2, hp, _⟩ := q; cases e2; exact ⟨_, hp⟩
    | bo x fs => obtain ⟨a, e2, C, dx, ws, _, hp, _⟩ := q; cases e2; exact ⟨_, hp⟩
    | _ => cases o
  · obtain ⟨v, e1, a, ev, h⟩ := get i _ e
    rw [z] at e1
    subst ev
    cases e1
    obtain ⟨ws, hl⟩ := h.at hq
    exact ⟨_, hl⟩
  unfold L2.start
  simp [hl]
theorem fn_ok {P : Program} {w : World} {K : PySem.W.Frag} {mg : Str → Option Value} {base : Heap} {x qual : Str} {sd : Stmt} {fA : Addr} {fd : FuncData} {N ps : List Str} {k : Nat} {body : VEnv → Out} (F : Fun K x qual sd fA fd) (S : FnScope N ps (defScope sd))
    (hb : ∀ (cdv : Value) (A : Around) (outer : List PySem.Env) (s : Shared) (H : Hp) (E : XK), Room k (A.deeper (envOfC qual (defScope sd) s.heap.objs.size fA cdv)) → Takes (cxOf (L2.CX P w) P w K mg base N qual (defScope sd) fA cdv A outer s H E) (fun cls dx _ H' => E cls dx H') →
      PassesOwn (model P w) (A.deeper (envOfC qual (defScope sd) s.heap.objs.size fA cdv)) (envOfC qual (defScope sd) s.heap.objs.size fA cdv) (cxOf (L2.CX P w) P w K mg base N qual (defScope sd) fA cdv A outer s H E).xe →
      VSs ca (fun cls dx _ H' => E cls dx H') (cxOf (L2.CX P w) P w K mg base N qual (defScope sd) fA cdv A outer s H E) (defBody sd) body) : FnOk P w K mg base (L2.CX P w) (k + 1) fA fd ps (spV K ca ps.length (fnD N.length body)) := by
  refine F.okX S (fun vs H Q E h => h.1) (fun cdv A outer s H vs Q E hr h => ?_)
  obtain ⟨hl, G, rs, c, tb, pr, q⟩ := h
  obtain ⟨t, p, sn⟩ := hb cdv A outer s H E hr (takes_of rfl rfl rfl rfl) (passes_of rfl)
  refine ⟨t, p, sn { F := G, H := H } G _ _ H _ (start_ok N c tb pr) ?_⟩
  unfold fnD at q
  generalize hB : body (rs.map some ++ List.replicate (N.length - rs.length) none) = o at q ⊢
  cases o with
  | nx env => exact fun F' σ' H' s st => q F' H' .non st.gr .non
  | rt r => exact fun F' H' v g r => q F' H' v g r
  | rm o d => exact q.elim
  | rp x fs d => exact q.elim
  | ex c fs env => exact fun F' σ' H' cls dx s st x => q F' H' cls dx st.gr x
  | bk env => exact q.elim
  | ct env => exact q.elim
  | no => exact q.elim
theorem ve_call {fA : Addr} {fd : FuncData} {ps : List Str} {x : Str} {p : Pos} {k n : Nat} {G : List RV → Rs RV} {f : VEnv → Rs (List RV)} (Fo : FnOk X.prog X.w X.K X.mg X.base (L2.CX X.prog X.w) k fA fd ps (spV X.K ca n G)) (hr : Room k X.A) (hg : Gl X x) (hm : X.mg x = some (.ref fA)) (hk : PySem.W.keepIn X.K (.ref fA) = true) (hb : Binds X.K fd ps []) (tk : Takes X W)
    (ha : VA ca W X (e :: es) f) (hn : (e :: es).length = n := by rfl) (hdb : (x == ("__debug__" : Str)) = false := by decide) (he : starEach (e :: es) X.env = (false, eval e X.env) :: starEach es X.env := by rfl) (hpl : (backTo pos (starEach es X.env)).any (·.1) = false := by rfl) :
    VE ca W X (.Call (.Name x p) (e :: es) [] pos) (cA (fun rs => if rs.length = n then G (rs.map RV.arg) else .no) f) := by
  obtain ⟨t, pa, sa⟩ := ha
  refine ⟨_, pe_callSD Fo hr hg hm hk hb .nil (fun σ => passAt tk σ) pa hdb he hpl, fun B F env σ H Q st q => ?_⟩
  show t σ H fun vs H1 => spV X.K ca n G (vs ++ []) H1 Q (WE W σ)
  refine seqA (PostE X.K ca W σ F H Q) sa st q (fun _ _ h => h) (fun h => h) fun rs F1 H1 vs p1 g1 q1 => ?_
  rw [List.append_nil]
  split at p1
  · rename_i hl
    obtain ⟨F2, g2, s2, q2⟩ := args_go g1 (Same.refl _) q1
    refine ⟨by rw [Paired.length q1, hl], F2, _, g2.cfg, st.rg.tb.grow g2, q2, ?_⟩
    cases e1 : G (rs.map RV.arg) with
    | ok r => rw [e1] at p1; exact fun G' H' v gg rr => p1 G' H' v (g2.trans gg) (rr.older g2.hh)
    | ex c fs => rw [e1] at p1; exact fun G' H' cls dx gg x => p1 G' H' cls dx (g2.trans gg) x
    | no => rw [e1] at p1; exact p1
  · exact p1.elim
end
end VL
namespace VL
open PySem PySem.Spec PyProof.Rows L2
def RV.lv : RV → Option (List PyData)
  | .d (.list xs) => some xs
  | .ol xs => some xs
  | .bl xs => some xs
  | _ => none
def RV.qv : RV → Option (List PyData)
  | .sc ns => some (ns.map .int)
  | r => r.lv
def RV.tv : RV → Option (List PyData)
  | .d (.tuple xs) => some xs
  | _ => none
def RV.data : RV → Option PyData
  | .d x => some x
  | .ol xs => some (.list xs)
  | .bl xs => some (.list xs)
  | .sc ns => some (.list (ns.map .int))
  | _ => none
section
variable {K : PySem.W.Frag} {ca : CA} {H0 F H : Hp} {v : V} {r : RV} {xs : List PyData}
theorem lv_ok (s : Same F H) (h : RVok K H0 F H v r) (e : r.lv = some xs) : ∃ p vs, v = .ref p ∧ H p = some (.lst vs) ∧ DqA K F vs xs := by
  cases r with
  | d x =>
    cases x with
    | list ys => cases e; cases h with
      | lst h1 h2 => exact ⟨_, _, rfl, s _ _ h1, h2⟩
    | _ => cases e
  | ol ys => cases e; obtain ⟨p, vs, e1, _, _, hp, q⟩ := h; exact ⟨p, vs, e1, hp, q⟩
  | bl ys => cases e; obtain ⟨p, vs, e1, hp, q⟩ := h; exact ⟨p, vs, e1, hp, q⟩
  | _ => cases e
theorem qv_ok (s : Same F H) (h : RVok K H0 F H v r) (e : r.qv = some xs) : ∃ p vs, v = .ref p ∧ SqL K H p vs ∧ DqA K F vs xs := by
  cases r with
  | sc ns => cases e; obtain ⟨a, e1, q⟩ := h; exact ⟨a, _, e1, s.seq q, DqA.of_ints ns⟩
  | d x => obtain ⟨p, vs, e1, hp, q⟩ := lv_ok s h e; exact ⟨p, vs, e1, SqL.of hp, q⟩
  | ol x => obtain ⟨p, vs, e1, hp, q⟩ := lv_ok s h e; exact ⟨p, vs, e1, SqL.of hp, q⟩
  | bl x => obtain ⟨p, vs, e1, hp, q⟩ := lv_ok s h e; exact ⟨p, vs, e1, SqL.of hp, q⟩
  | _ => cases e
theorem tv_ok (s : Same F H) (h : RVok K H0 F H v r) (e : r.tv = some xs) : ∃ p vs, v = .ref p ∧ SqT K H p vs ∧ SqN K F p vs ∧ DqA K F vs xs := by
  cases r with
  | d x =>
    cases x with
    | tuple ys => cases e; cases h with
      | tup h1 h2 => exact ⟨_, _, rfl, same_seqT s h1.1, h1, h2⟩
    | _ => cases e
  | _ => cases e
theorem data_ok {x : PyData} (s : Same F H) (h : RVok K H0 F H v r) (e : r.data = some x) : Dp K H v x := by
  cases r with
  | d y => cases e; exact Dq.dp x v (Dq.mono s x v h)
  | ol ys => cases e; obtain ⟨p, vs, e1, _, _, hp, q⟩ := h; subst e1; exact .lst (SqL.of hp) (DqA.dp _ _ (DqA.mono s _ _ q))
  | bl ys => cases e; obtain ⟨p, vs, e1, hp, q⟩ := h; subst e1; exact .lst (SqL.of hp) (DqA.dp _ _ (DqA.mono s _ _ q))
  | sc ns => cases e; obtain ⟨a, e1, q⟩ := h; subst e1; exact .lst (s.seq q) (DqA.dp _ _ (DqA.of_ints (F := H) ns))
  | _ => cases e
theorem atI_dq {vs : List V} {i : Int} {d : PyData} (h : DqA K F vs xs) (e : atI xs i = some d) : ∃ w, atI vs i = some w ∧ Dq K F w d := by
  unfold atI at e ⊢
  rw [h.length]
  cases z : ixN xs.length i with
  | none => rw [z] at e; cases e
  | some j => rw [z] at e; exact h.get e
instance dCMul (i j : Int) : Decidable (CMul i j) := inferInstanceAs (Decidable ((-(2 ^ 64) < i ∧ i < 2 ^ 64) ∨ (-(2 ^ 64) < j ∧ j < 2 ^ 64)))
instance dCDiv (i j : Int) : Decidable (CDiv i j) := inferInstanceAs (Decidable (0 < j ∧ j < 1073741824))
instance dCPow (i j : Int) : Decidable (CPow i j) := inferInstanceAs (Decidable (0 ≤ j ∧ j ≤ 1000000 ∧ i.natAbs < 2 ^ 64))
def RV.i2 (f : Int → Int → Rs RV) : RV → RV → Rs RV
  | .d (.int i), .d (.int j) => f i j
  | _, _ => .no
def okI (i : Int) : Rs RV := .ok (.d (.int i))
def okB (b : Bool) : Rs RV := .ok (.d (.bool b))
theorem snd_i2 {C : Int → Int → Prop} [∀ i j, Decidable (C i j)] {g : Int → Int → Int} : Op2S K ca (rI C fun i j => .int (g i j)) (RV.i2 fun i j => if C i j then okI (g i j) else .no) := by
  intro W σ F0 H0 F H v1 v2 a b Q gr h1 h2 p
  cases a with
  | d x => cases b with
    | d y => cases x with
      | int i => cases y with
        | int j =>
          cases h1; cases h2
          simp only [RV.i2] at p
          split at p
          · rename_i c; exact ⟨i, j, rfl, rfl, c, p F H _ gr (.int _)⟩
          · exact p.elim
        | _ => exact p.elim
      | _ => exact p.elim
    | _ => cases x <;> exact p.elim
  | _ => exact p.elim
theorem snd_i20 {g : Int → Int → V} {g' : Int → Int → PyData} (hg : ∀ (F : Hp) i j, Dq K F (g i j) (g' i j)) : Op2S K ca (rI0 g) (RV.i2 fun i j => .ok (.d (g' i j))) := by
  intro W σ F0 H0 F H v1 v2 a b Q gr h1 h2 p
  cases a with
  | d x => cases b with
    | d y => cases x with
      | int i => cases y with
        | int j => cases h1; cases h2; exact ⟨i, j, rfl, rfl, p F H _ gr (hg _ _ _)⟩
        | _ => exact p.elim
      | _ => exact p.elim
    | _ => cases x <;> exact p.elim
  | _ => exact p.elim
def gSub := RV.i2 fun i j => okI (i - j)
def gMul := RV.i2 fun i j => if i.natAbs < 18446744073709551616 ∨ j.natAbs < 18446744073709551616 then okI (i * j) else .no
def gMod := RV.i2 fun i j => if 0 < j then okI (i % j) else .no
def gDiv := RV.i2 fun i j => if 0 < j ∧ j.natAbs < 1073741824 then okI (i / j) else .no
def gPow := RV.i2 fun i j => if 0 ≤ j ∧ j ≤ 1000000 ∧ i.natAbs < 2 ^ 64 then okI (i ^ j.toNat) else .no
def gLt := RV.i2 fun i j => okB (decide (i < j))
def gLe := RV.i2 fun i j => okB (decide (i ≤ j))
def gGt := RV.i2 fun i j => okB (decide (j < i))
def gGe := RV.i2 fun i j => okB (decide (j ≤ i))
theorem s_sub : Op2S K ca (rI0 fun i j => .int (i - j)) gSub := snd_i20 fun _ _ _ => .int _
theorem rI_weak {C C' : Int → Int → Prop} {g : Int → Int → V} {G : RV → RV → Rs RV} (h : ∀ i j, C i j → C' i j) (s : Op2S K ca (rI C g) G) : Op2S K ca (rI C' g) G := by
  intro W σ F0 H0 F H v1 v2 a b Q gr h1 h2 p
  obtain ⟨i, j, e1, e2, c, q⟩ := s W σ F0 H0 F H v1 v2 a b Q gr h1 h2 p
  exact ⟨i, j, e1, e2, h i j c, q⟩
theorem s_div : Op2S K ca (rI CDiv fun i j => .int (i / j)) gDiv :=
  rI_weak (C := fun i j => 0 < j ∧ j.natAbs < 1073741824) (fun i j h => by unfold CDiv; omega) snd_i2
theorem s_mul : Op2S K ca (rI CMul fun i j => .int (i * j)) gMul :=
  rI_weak (C := fun i j => i.natAbs < 18446744073709551616 ∨ j.natAbs < 18446744073709551616) (fun i j h => by unfold CMul; omega) snd_i2
theorem s_mod : Op2S K ca (rI (fun _ j => 0 < j) fun i j => .int (i % j)) gMod := snd_i2
theorem s_pow : Op2S K ca (rI CPow fun i j => .int (i ^ j.toNat)) gPow := by
  exact snd_i2 (C := CPow)
theorem s_lt : Op2S K ca (rI0 fun i j => .bl (decide (i < j))) gLt := snd_i20 fun _ _ _ => .bl _
theorem s_le : Op2S K ca (rI0 fun i j => .bl (decide (i ≤ j))) gLe := snd_i20 fun _ _ _ => .bl _
theorem s_gt : Op2S K ca (rI0 fun i j => .bl (decide (j < i))) gGt := snd_i20 fun _ _ _ => .bl _
theorem s_ge : Op2S K ca (rI0 fun i j => .bl (decide (j ≤ i))) gGe := snd_i20 fun _ _ _ => .bl _
def gNeg : RV → Rs RV
  | .d (.int i) => okI (-i)
  | _ => .no
theorem s_neg : Op1S K ca (rU fun i => .int (-i)) gNeg := by
  intro W σ F0 H0 F H v a Q gr h p
  cases a with
  | d x => cases x with
    | int i => cases h; exact ⟨i, rfl, p F H _ gr (.int _)⟩
    | _ => exact p.elim
  | _ => exact p.elim
def rOr (r r' : R2) : R2 := fun x y H Q => r x y H Q ∨ r' x y H Q
theorem op_or' {X : Cx} {f : Value → Value → Sem Value} {r r' : R2} (h : OpR X f r) (h' : OpR X f r') : OpR X f (rOr r r') := by
  intro pins s σ H x y v u Q I rx ry q
  rcases q with q | q
  · exact h pins s σ H x y v u Q I rx ry q
  · exact h' pins s σ H x y v u Q I rx ry q
abbrev rStr : R2 := fun x y H Q => ∃ i j, x = .str i ∧ y = .str j ∧ i.length + j.length ≤ sizeLine ∧ Q (.str (i ++ j)) H
def rCatN (K : PySem.W.Frag) : R2 := fun x y H Q => ∃ a b xs ys, x = .ref a ∧ y = .ref b ∧ SqT K H a xs ∧ SqT K H b ys ∧ xs.length + ys.length ≤ sizeLine ∧
  (xs = [] → Q (.ref b) H) ∧ (xs ≠ [] → ys = [] → Q (.ref a) H) ∧ (xs ≠ [] → ys ≠ [] → ∀ (o : Obj) p, o.dict = none → H p = none → Q (.ref p) (upd H p (.frz o (.tup (xs ++ ys)))))
theorem op_catN {X : Cx} : OpR X (binaryOp .Add) (rCatN X.K) := by
  intro pins s σ H x y v u Q I rx ry h
  obtain ⟨a, b, xs, ys, rfl, rfl, ha, hb, hz, k0, k1, k2⟩ := h
  cases rx
  cases ry
  obtain ⟨is1, r1, t1, _⟩ := I.tuple ha
  obtain ⟨is2, r2, t2, _⟩ := I.tuple hb
  by_cases hx : xs = []
  · subst hx
    cases r1
    exact cat_tup0 t1 t2 ⟨.ref b, H, I, rfl, k0 rfl⟩
  · refine HT.cat_tup t1 t2 (fun z => hx (r1.nil_iff.mp z)) (fun z => ⟨.ref a, H, I, rfl, k1 hx (r2.nil_iff.mp z)⟩) (fun z => ?_) (by rw [← r1.length, ← r2.length]; exact hz)
    have nn : H s.heap.objs.size = none := I.hok.fresh (Nat.le_refl _)
    refine ⟨.ref s.heap.objs.size, _, I.laid (t' := s.toks) (o := .frz _ (.tup (xs ++ ys))) (fun _ _ q => Heap.get?_push_of_some _ q) (Nat.le_refl _) ⟨Heap.get?_push_size _ rfl, ?_⟩, rfl, k2 hx (fun w => z (r2.nil_iff.mpr w)) _ _ rfl nn⟩
    exact ⟨by rw [List.length_append]; exact hz, _, r1.append r2, _, Heap.get?_push_size _ rfl, rfl, _, rfl⟩
def rAddA (K : PySem.W.Frag) : R2 := rOr (rI0 fun i j => .int (i + j)) (rOr rStr (rOr rCat (rCatN K)))
theorem op_addA {X : Cx} : OpR X (binaryOp .Add) (rAddA X.K) := op_or' op_add (op_or' op_add_str (op_or' op_cat op_catN))
def gAdd (a b : RV) : Rs RV := match a, b with
  | .d (.int i), .d (.int j) => okI (i + j)
  | .d (.str x), .d (.str y) => if x.length + y.length ≤ 1000000 then .ok (.d (.str (x ++ y))) else .no
  | .d (.tuple xs), .d (.tuple ys) => if xs.length + ys.length ≤ 1000000 then .ok (.d (.tuple (xs ++ ys))) else .no
  | a, b => match a.lv, b.lv with
    | some xs, some ys => if xs.length + ys.length ≤ 1000000 then .ok (.ol (xs ++ ys)) else .no
    | _, _ => .no
theorem s_add : Op2S K ca (rAddA K) gAdd := by
  intro W σ F0 H0 F H v1 v2 a b Q gr h1 h2 p
  unfold gAdd at p
  split at p
  · cases h1; cases h2; exact .inl ⟨_, _, rfl, rfl, p F H _ gr (.int _)⟩
  · cases h1; cases h2
    split at p
    · rename_i hz
      exact .inr (.inl ⟨_, _, rfl, rfl, Nat.le_of_lt (million hz), p F H _ gr (.str _)⟩)
    · exact p.elim
  · split at p
    · rename_i xs ys hz
      obtain ⟨p1, vs, rfl, a1, a1', q1⟩ := tv_ok gr.cfg.sub h1 rfl
      obtain ⟨p2, ws, rfl, a2, a2', q2⟩ := tv_ok gr.cfg.sub h2 rfl
      refine .inr (.inr (.inr ⟨p1, p2, vs, ws, rfl, rfl, a1, a2, ?_, fun e => ?_, fun e e' => ?_, fun e e' o l no hl => ?_⟩))
      · rw [q1.length, q2.length]; exact Nat.le_of_lt (million hz)
      · subst e
        have : xs = [] := by have := q1.length; cases xs with
          | nil => rfl
          | cons _ _ => simp at this
        subst this
        exact p F H _ gr (.tup a2' q2)
      · subst e'
        have : ys = [] := by have := q2.length; cases ys with
          | nil => rfl
          | cons _ _ => simp at this
        subst this
        exact p F H _ gr (by rw [List.append_nil]; exact .tup a1' q1)
      · have g2 := Grow.newF gr.cfg (.frz o (.tup (vs ++ ws))) hl
        exact p _ _ _ (gr.trans g2) (.tup (.frz no upd_same) ((DqA.mono g2.ff _ _ q1).append (DqA.mono g2.ff _ _ q2)))
    · exact p.elim
  · split at p
    · rename_i xs ys e1 e2
      split at p
      · rename_i hz
        obtain ⟨p1, vs, rfl, a1, q1⟩ := lv_ok gr.cfg.sub h1 e1
        obtain ⟨p2, ws, rfl, a2, q2⟩ := lv_ok gr.cfg.sub h2 e2
        refine .inr (.inr (.inl ⟨p1, p2, vs, ws, rfl, rfl, a1, a2, ?_, fun l hl => ?_⟩))
        · rw [q1.length, q2.length]; exact Nat.le_of_lt (million hz)
        · have g2 := Grow.newO gr.cfg (.lst (vs ++ ws)) hl (fun _ z => by cases z)
          exact p _ _ _ (gr.trans g2) ⟨l, _, rfl, none_n gr.hh hl, same_none gr.cfg.sub hl, upd_same, q1.append q2⟩
      · exact p.elim
    · exact p.elim
def gEq (a b : RV) : Rs RV := (rsO a.data).bind fun x => (rsO b.data).bind fun y => if SeqAt.shaped x = true ∧ SeqAt.shaped y = true then okB (PyData.eqv x y) else .no
def gNe (a b : RV) : Rs RV := (rsO a.data).bind fun x => (rsO b.data).bind fun y => if SeqAt.shaped x = true ∧ SeqAt.shaped y = true then okB (!PyData.eqv x y) else .no
theorem s_eq : Op2S K ca (rEqD K) gEq := by
  intro W σ F0 H0 F H v1 v2 a b Q gr h1 h2 p
  unfold gEq at p
  cases e1 : a.data with
  | none => rw [e1] at p; exact p.elim
  | some x => cases e2 : b.data with
    | none => rw [e1, e2] at p; exact p.elim
    | some y =>
      rw [e1, e2] at p
      simp only [rsO_some, Rs.bind_ok] at p
      split at p
      · rename_i s; exact ⟨x, y, data_ok gr.cfg.sub h1 e1, data_ok gr.cfg.sub h2 e2, s.1, s.2, p F H _ gr (.bl _)⟩
      · exact p.elim
theorem s_ne : Op2S K ca (rNeD K) gNe := by
  intro W σ F0 H0 F H v1 v2 a b Q gr h1 h2 p
  unfold gNe at p
  cases e1 : a.data with
  | none => rw [e1] at p; exact p.elim
  | some x => cases e2 : b.data with
    | none => rw [e1, e2] at p; exact p.elim
    | some y =>
      rw [e1, e2] at p
      simp only [rsO_some, Rs.bind_ok] at p
      split at p
      · rename_i s; exact ⟨x, y, data_ok gr.cfg.sub h1 e1, data_ok gr.cfg.sub h2 e2, s.1, s.2, p F H _ gr (.bl _)⟩
      · exact p.elim
def rInT (K : PySem.W.Frag) : R2 := fun x y H Q => ∃ d ds, Dp K H x d ∧ Dp K H y (.tuple ds) ∧ SeqAt.shaped d = true ∧ SeqAt.shaped (.tuple ds) = true ∧ Q (.bl (ds.any fun z => PyData.eqv z d)) H
def rNotInT (K : PySem.W.Frag) : R2 := fun x y H Q => ∃ d ds, Dp K H x d ∧ Dp K H y (.tuple ds) ∧ SeqAt.shaped d = true ∧ SeqAt.shaped (.tuple ds) = true ∧ Q (.bl (!ds.any fun z => PyData.eqv z d)) H
theorem op_inT {X : Cx} (hu : X.A.units + 65 < cLine) : OpR X (compareOp .In) (rInT X.K) := by
  intro pins s σ H x y v u Q I rx ry h
  obtain ⟨d, ds, hd, he, sd, se, q⟩ := h
  obtain ⟨as, r1⟩ := Dp.reads I d x v hd rx
  obtain ⟨bs, r2⟩ := Dp.reads I (.tuple ds) y u he ry
  exact SeqAt.in_tuple_reads r2 r1 (SeqAt.canLay_of_shaped se) (SeqAt.canLay_of_shaped sd) (PyProof.Rows.room_in_shaped sd hu) ⟨.bl _, H, I, rfl, q⟩
theorem op_notInT {X : Cx} (hu : X.A.units + 65 < cLine) : OpR X (compareOp .NotIn) (rNotInT X.K) := by
  intro pins s σ H x y v u Q I rx ry h
  obtain ⟨d, ds, hd, he, sd, se, q⟩ := h
  obtain ⟨as, r1⟩ := Dp.reads I d x v hd rx
  obtain ⟨bs, r2⟩ := Dp.reads I (.tuple ds) y u he ry
  exact SeqAt.notIn_tuple_reads r2 r1 (SeqAt.canLay_of_shaped se) (SeqAt.canLay_of_shaped sd) (PyProof.Rows.room_in_shaped sd hu) ⟨.bl _, H, I, rfl, q⟩
abbrev rSubS : R2 := fun x y H Q => ∃ i j, x = .str i ∧ y = .str j ∧ Q (.bl (!(Builtin.Str.occurrences j i 0 j.length 1).isEmpty)) H
abbrev rNSubS : R2 := fun x y H Q => ∃ i j, x = .str i ∧ y = .str j ∧ Q (.bl (!(!(Builtin.Str.occurrences j i 0 j.length 1).isEmpty))) H
def rInA (K : PySem.W.Frag) : R2 := rOr (rInD K) (rOr (rInT K) rSubS)
def rNotInA (K : PySem.W.Frag) : R2 := rOr (rNotInD K) (rOr (rNotInT K) rNSubS)
theorem op_inA {X : Cx} (hu : X.A.units + 65 < cLine) : OpR X (compareOp .In) (rInA X.K) := op_or' (op_inD hu) (op_or' (op_inT hu) op_in_str)
theorem op_notInA {X : Cx} (hu : X.A.units + 65 < cLine) : OpR X (compareOp .NotIn) (rNotInA X.K) := op_or' (op_notInD hu) (op_or' (op_notInT hu) op_notin_str)
theorem hu65 {A : Around} {k : Nat} (hr : Room k A) : A.units + 65 < cLine := by have := hr.un; omega
def gInB (a b : RV) : Rs Bool := match a, b with
  | .d (.str x), .d (.str y) => .ok (!(Builtin.Str.occurrences y x 0 y.length 1).isEmpty)
  | a, .d (.tuple ds) => (rsO a.data).bind fun x => if SeqAt.shaped x = true ∧ SeqAt.shaped (.tuple ds) = true then .ok (ds.any fun z => PyData.eqv z x) else .no
  | a, b => (rsO a.data).bind fun x => (rsO b.data).bind fun y => match y with
    | .list ds => if SeqAt.shaped x = true ∧ SeqAt.shaped (.list ds) = true then .ok (ds.any fun z => PyData.eqv z x) else .no
    | _ => .no
def gIn (a b : RV) : Rs RV := (gInB a b).bind okB
def gNotIn (a b : RV) : Rs RV := (gInB a b).bind fun k => okB (!k)
theorem gInB_sound {v1 v2 : V} {a b : RV} {α : Type} {P : Rs α → Prop} {k : Bool → Rs α} (s : Same F H) (h1 : RVok K H0 F H v1 a) (h2 : RVok K H0 F H v2 b) (hn : ¬ P .no) (p : P ((gInB a b).bind k)) :
    (∃ d ds, Dp K H v1 d ∧ Dp K H v2 (.list ds) ∧ SeqAt.shaped d = true ∧ SeqAt.shaped (.list ds) = true ∧ P (k (ds.any fun z => PyData.eqv z d))) ∨
    (∃ d ds, Dp K H v1 d ∧ Dp K H v2 (.tuple ds) ∧ SeqAt.shaped d = true ∧ SeqAt.shaped (.tuple ds) = true ∧ P (k (ds.any fun z => PyData.eqv z d))) ∨
    ∃ i j, v1 = .str i ∧ v2 = .str j ∧ P (k (!(Builtin.Str.occurrences j i 0 j.length 1).isEmpty)) := by
  unfold gInB at p
  split at p
  · cases h1; cases h2; exact .inr (.inr ⟨_, _, rfl, rfl, p⟩)
  · rename_i ds
    cases e1 : a.data with
    | none => rw [e1] at p; exact absurd p hn
    | some x =>
      rw [e1] at p
      simp only [rsO_some, Rs.bind_ok] at p
      split at p
      · rename_i z; exact .inr (.inl ⟨x, ds, data_ok s h1 e1, data_ok s h2 rfl, z.1, z.2, p⟩)
      · exact absurd p hn
  · cases e1 : a.data with
    | none => rw [e1] at p; exact absurd p hn
    | some x => cases e2 : b.data with
      | none => rw [e1, e2] at p; exact absurd p hn
      | some y =>
        rw [e1, e2] at p
        simp only [rsO_some, Rs.bind_ok] at p
        split at p
        · split at p
          · rename_i z; exact .inl ⟨x, _, data_ok s h1 e1, data_ok s h2 e2, z.1, z.2, p⟩
          · exact absurd p hn
        · exact absurd p hn
theorem s_in : Op2S K ca (rInA K) gIn := by
  intro W σ F0 H0 F H v1 v2 a b Q gr h1 h2 p
  rcases gInB_sound (P := PostE K ca W σ F0 H0 Q) gr.cfg.sub h1 h2 (fun h => h) p with ⟨d, ds, q1, q2, q3, q4, q5⟩ | ⟨d, ds, q1, q2, q3, q4, q5⟩ | ⟨i, j, e1, e2, q5⟩
  · exact .inl ⟨d, ds, q1, q2, q3, q4, q5 F H _ gr (.bl _)⟩
  · exact .inr (.inl ⟨d, ds, q1, q2, q3, q4, q5 F H _ gr (.bl _)⟩)
  · exact .inr (.inr ⟨i, j, e1, e2, q5 F H _ gr (.bl _)⟩)
theorem s_notIn : Op2S K ca (rNotInA K) gNotIn := by
  intro W σ F0 H0 F H v1 v2 a b Q gr h1 h2 p
  rcases gInB_sound (P := PostE K ca W σ F0 H0 Q) gr.cfg.sub h1 h2 (fun h => h) p with ⟨d, ds, q1, q2, q3, q4, q5⟩ | ⟨d, ds, q1, q2, q3, q4, q5⟩ | ⟨i, j, e1, e2, q5⟩
  · exact .inl ⟨d, ds, q1, q2, q3, q4, q5 F H _ gr (.bl _)⟩
  · exact .inr (.inl ⟨d, ds, q1, q2, q3, q4, q5 F H _ gr (.bl _)⟩)
  · exact .inr (.inr ⟨i, j, e1, e2, q5 F H _ gr (.bl _)⟩)
def isNone : RV → Bool
  | .d .none => true
  | _ => false
def gIs (a b : RV) : Rs RV := match b with
  | .d .none => okB (isNone a)
  | _ => .no
def gIsNot (a b : RV) : Rs RV := match b with
  | .d .none => okB (!isNone a)
  | _ => .no
theorem isNone_ok (h : RVok K H0 F H v r) : decide (v = .non) = isNone r := by
  cases r with
  | d x => cases x <;> cases h <;> rfl
  | ol xs => obtain ⟨p, vs, rfl, _⟩ := h; rfl
  | bl xs => obtain ⟨p, vs, rfl, _⟩ := h; rfl
  | od xs => obtain ⟨p, vs, rfl, _⟩ := h; rfl
  | bd xs => obtain ⟨p, vs, rfl, _⟩ := h; rfl
  | ot xs => obtain ⟨p, vs, rfl, _⟩ := h; rfl
  | bt xs => obtain ⟨p, vs, rfl, _⟩ := h; rfl
  | sc ns => obtain ⟨a, rfl, _⟩ := h; rfl
  | xo a dd c fs => obtain ⟨rfl, _⟩ := h; rfl
  | t3 x ys kvs => obtain ⟨p, w, l, d, vs, us, rfl, _⟩ := h; rfl
  | fd kvs => obtain ⟨p, us, rfl, _⟩ := h; rfl
  | ob me x fs => obtain ⟨p, rfl, _⟩ := h; rfl
  | bo x fs => obtain ⟨p, rfl, _⟩ := h; rfl
theorem s_is : Op2S K ca (fun x y H Q => y = .non ∧ Q (.bl (decide (x = .non))) H) gIs := by
  intro W σ F0 H0 F H v1 v2 a b Q gr h1 h2 p
  unfold gIs at p
  split at p
  · cases h2; exact ⟨rfl, by rw [isNone_ok h1]; exact p F H _ gr (.bl _)⟩
  · exact p.elim
theorem s_isNot : Op2S K ca (fun x y H Q => y = .non ∧ Q (.bl (!decide (x = .non))) H) gIsNot := by
  intro W σ F0 H0 F H v1 v2 a b Q gr h1 h2 p
  unfold gIsNot at p
  split at p
  · cases h2; exact ⟨rfl, by rw [isNone_ok h1]; exact p F H _ gr (.bl _)⟩
  · exact p.elim
def RV.sq (r : RV) : Option (List PyData) := match r with
  | .d (.tuple xs) => some xs
  | r => r.qv
def gIx (a b : RV) : Rs RV := match b with
  | .d (.int i) => (match a with
    | .d (.str z) => if z.length ≤ 1000000 then (rsO (atI z.cps.toList i)).bind fun c => .ok (.d (.str ⟨#[c]⟩)) else .no
    | a => (rsO a.sq).bind fun xs => (rsO (atI xs i)).bind fun d => .ok (.d d))
  | _ => .no
theorem s_ix : Op2S K ca (rIx K) gIx := by
  intro W σ F0 H0 F H v1 v2 a b Q gr h1 h2 p
  unfold gIx at p
  split at p
  · rename_i i
    cases h2
    split at p
    · rename_i z
      cases h1
      split at p
      · rename_i hz
        cases e : atI z.cps.toList i with
        | none => rw [e] at p; exact p.elim
        | some c => rw [e] at p; exact .inr (.inr ⟨z, i, c, rfl, rfl, Nat.le_of_lt (million hz), e, p F H _ gr (.str _)⟩)
      · exact p.elim
    · cases e : a.sq with
      | none => rw [e] at p; exact p.elim
      | some xs =>
        rw [e] at p
        simp only [rsO_some, Rs.bind_ok] at p
        cases e2 : atI xs i with
        | none => rw [e2] at p; exact p.elim
        | some d =>
          rw [e2] at p
          by_cases ht : a.tv = some xs
          · obtain ⟨p1, vs, rfl, a1, _, q1⟩ := tv_ok gr.cfg.sub h1 ht
            obtain ⟨w, e3, q3⟩ := atI_dq q1 e2
            exact .inr (.inl ⟨p1, vs, i, w, rfl, rfl, a1, e3, p F H _ gr q3⟩)
          · have eq : a.qv = some xs := by
              unfold RV.sq at e
              split at e
              · exact absurd (by exact e) ht
              · exact e
            obtain ⟨p1, vs, rfl, a1, q1⟩ := qv_ok gr.cfg.sub h1 eq
            obtain ⟨w, e3, q3⟩ := atI_dq q1 e2
            exact .inl ⟨p1, vs, i, w, rfl, rfl, a1, e3, p F H _ gr q3⟩
  · exact p.elim
def cutL {α : Type} (xs : List α) (lo hi : Option Int) : List α := (xs.drop (HT.sIx xs.length 0 lo)).take (HT.sIx xs.length xs.length hi - HT.sIx xs.length 0 lo)
theorem cut_dq {vs : List V} (h : DqA K F vs xs) (lo hi : Option Int) : DqA K F (cutV vs lo hi) (cutL xs lo hi) := by
  unfold cutV cutL
  rw [h.length]
  exact (h.drop _).take _
def gSl (a : RV) (lo hi : Option Int) : Rs RV := match a with
  | .d (.str z) => if z.length ≤ 1000000 then .ok (.d (.str (cutS z lo hi))) else .no
  | .d (.tuple xs) => .ok (.d (.tuple (cutL xs lo hi)))
  | a => (rsO a.qv).bind fun xs => .ok (.ol (cutL xs lo hi))
def rSlN (K : PySem.W.Frag) : V → Option Int → Option Int → Hp → VK → Prop := fun x lo hi H Q => ∃ a xs, x = .ref a ∧ SqT K H a xs ∧
  (HT.sIx xs.length 0 lo = 0 ∧ HT.sIx xs.length xs.length hi = xs.length → Q (.ref a) H) ∧ (¬ (HT.sIx xs.length 0 lo = 0 ∧ HT.sIx xs.length xs.length hi = xs.length) → ∀ (o : Obj) p, o.dict = none → H p = none → Q (.ref p) (upd H p (.frz o (.tup (cutV xs lo hi)))))
theorem sl_tupN {X : Cx} : SlR X (rSlN X.K) := by
  intro pins s σ H x v vl vu lo hi sl Q I rx hs pl pu h
  obtain ⟨a, xs, rfl, hx, k1, k2⟩ := h
  cases rx
  obtain ⟨its, r, ht, hz⟩ := I.tuple hx
  have hl : its.toArray.size = xs.length := by rw [List.size_toArray]; exact r.length.symm
  refine ⟨"tuple", _, PyProof.Rows.slot_tuple_getitem.lookup, ht.typeIs, ?_⟩
  by_cases hw : HT.sIx xs.length 0 lo = 0 ∧ HT.sIx xs.length xs.length hi = xs.length
  · exact getItem_tuple_whole ht hs pl pu (by rw [hl]; exact hw) ⟨.ref a, H, I, rfl, k1 hw⟩
  · refine HT.getItem_tuple_cut ht hs pl pu (by rw [hl]; exact hw) ?_ (by rw [hl]; exact hz)
    rw [hl]
    have nn : H s.heap.objs.size = none := I.hok.fresh (Nat.le_refl _)
    refine ⟨.ref s.heap.objs.size, _, I.laid (t' := s.toks) (o := .frz _ (.tup (cutV xs lo hi))) (fun _ _ q => Heap.get?_push_of_some _ q) (Nat.le_refl _) ⟨Heap.get?_push_size _ rfl, ?_⟩, rfl, k2 hw _ _ rfl nn⟩
    exact ⟨Nat.le_trans (cutV_length xs lo hi) hz, _, (r.drop (HT.sIx xs.length 0 lo)).take (HT.sIx xs.length xs.length hi - HT.sIx xs.length 0 lo), _, Heap.get?_push_size _ rfl, rfl, _, rfl⟩
def rSlAll (K : PySem.W.Frag) : V → Option Int → Option Int → Hp → VK → Prop := fun x lo hi H Q => rSlS x lo hi H Q ∨ (rSlN K x lo hi H Q ∨ rSlL K x lo hi H Q)
theorem sl_all {X : Cx} : SlR X (rSlAll X.K) := SlR.or sl_str (SlR.or sl_tupN sl_list)
theorem s_sl {W : WX} {σ : L2.St} {F0 H0' : Hp} {lo hi : Option Int} {Q : VK} (gr : Grow F0 H0' F H) (h : RVok K H0' F H v r) (p : PostE K ca W σ F0 H0' Q (gSl r lo hi)) : rSlAll K v lo hi H Q := by
  unfold gSl at p
  split at p
  · cases h
    split at p
    · rename_i hz
      exact .inl ⟨_, rfl, Nat.le_of_lt (million hz), p F H _ gr (.str _)⟩
    · exact p.elim
  · rename_i xs
    obtain ⟨p1, vs, rfl, a1, a2, q1⟩ := tv_ok gr.cfg.sub h rfl
    refine .inr (.inl ⟨p1, vs, rfl, a1, fun e => ?_, fun e o l no hl => ?_⟩)
    · have ew : cutL xs lo hi = xs := by
        unfold cutL
        rw [q1.length] at e
        rw [e.1, e.2]
        simp
      exact p F H _ gr (by rw [ew]; exact .tup a2 q1)
    · have g2 := Grow.newF gr.cfg (.frz o (.tup (cutV vs lo hi))) hl
      exact p _ _ _ (gr.trans g2) (.tup (.frz no upd_same) (DqA.mono g2.ff _ _ (cut_dq q1 lo hi)))
  · cases e : r.qv with
    | none => rw [e] at p; exact p.elim
    | some xs =>
      rw [e] at p
      obtain ⟨p1, vs, rfl, a1, q1⟩ := qv_ok gr.cfg.sub h e
      refine .inr (.inr ⟨p1, vs, rfl, a1, fun l hl => ?_⟩)
      have g2 := Grow.newO gr.cfg (.lst (cutV vs lo hi)) hl (fun _ z => by cases z)
      exact p _ _ _ (gr.trans g2) ⟨l, _, rfl, none_n gr.hh hl, same_none gr.cfg.sub hl, upd_same, cut_dq q1 lo hi⟩
end
end VL
namespace VL
open PySem PySem.Spec PyProof.Rows L2
section
variable {K : PySem.W.Frag} {ca : CA}
theorem pr1 {P : V → RV → Prop} {vs : List V} {r : RV} (h : Paired P vs [r]) : ∃ v, vs = [v] ∧ P v r := by
  cases h with
  | cons h1 h2 => cases h2; exact ⟨_, rfl, h1⟩
theorem pr2 {P : V → RV → Prop} {vs : List V} {r r' : RV} (h : Paired P vs [r, r']) : ∃ v w, vs = [v, w] ∧ P v r ∧ P w r' := by
  cases h with
  | cons h1 h2 => cases h2 with
    | cons h3 h4 => cases h4; exact ⟨_, _, rfl, h1, h3⟩
theorem sq_ok {H0 F H : Hp} {v : V} {r : RV} {xs : List PyData} (s : Same F H) (h : RVok K H0 F H v r) (e : r.sq = some xs) : ∃ p vs, v = .ref p ∧ (SqL K H p vs ∨ SqT K H p vs) ∧ DqA K F vs xs := by
  by_cases ht : r.tv = some xs
  · obtain ⟨p1, vs, e1, a1, _, q1⟩ := tv_ok s h ht
    exact ⟨p1, vs, e1, .inr a1, q1⟩
  · have eq : r.qv = some xs := by
      unfold RV.sq at e
      split at e
      · exact absurd (by exact e) ht
      · exact e
    obtain ⟨p1, vs, e1, a1, q1⟩ := qv_ok s h eq
    exact ⟨p1, vs, e1, .inl a1, q1⟩
def gLen : List RV → Rs RV
  | [.d (.str z)] => if z.length ≤ 1000000 then okI z.length else .no
  | [.bd kvs] => okI kvs.length
  | [.od kvs] => okI kvs.length
  | [r] => (rsO r.sq).bind fun xs => okI xs.length
  | _ => .no
abbrev rLenS (K : PySem.W.Frag) : List V → Hp → VK → Prop := fun xs H Q => ∃ p ys, xs = [.ref p] ∧ (SqL K H p ys ∨ SqT K H p ys) ∧ Q (.int ys.length) H
abbrev rLenT : List V → Hp → VK → Prop := fun xs H Q => ∃ z, xs = [.str z] ∧ z.length ≤ sizeLine ∧ Q (.int z.length) H
abbrev rLenD : List V → Hp → VK → Prop := fun xs H Q => ∃ p kvs, xs = [.ref p] ∧ Rd H p (.dK kvs) ∧ Q (.int kvs.length) H
theorem call_lenD' {X : Cx} : CallR X (.builtin "len") rLenD := by
  intro pins s σ H xs us Q I r h
  obtain ⟨a, kvs, rfl, ha, q⟩ := h
  obtain ⟨u, rfl, ru⟩ := vals1 r
  cases ru
  exact d_len I ha fun t s' I' => ⟨.int kvs.length, H, I', ⟨t, rfl⟩, q⟩
theorem call_lenA {X : Cx} : CallR X (.builtin "len") (fun xs H Q => rLenS X.K xs H Q ∨ (rLenT xs H Q ∨ rLenD xs H Q)) := CallR.or call_len_seq (CallR.or call_len_str call_lenD')
theorem KD.length {κ : Type} {F : Hp} : ∀ {a : List (κ × V)} {b : List (κ × PyData)}, KD K F a b → a.length = b.length := fun h => Paired.length h
theorem c_len : CaS K ca (fun xs H Q => rLenS K xs H Q ∨ (rLenT xs H Q ∨ rLenD xs H Q)) gLen := by
  intro W σ F0 H0 F H vs as Q gr h p
  unfold gLen at p
  split at p
  · obtain ⟨v, rfl, hx⟩ := pr1 h
    cases hx
    split at p
    · rename_i hz; exact .inr (.inl ⟨_, rfl, Nat.le_of_lt (million hz), p F H _ gr (.int _)⟩)
    · exact p.elim
  · obtain ⟨v, rfl, q, ks, rfl, hp, kd⟩ := pr1 h
    exact .inr (.inr ⟨q, ks, rfl, hp, by rw [kd.length]; exact p F H _ gr (.int _)⟩)
  · obtain ⟨v, rfl, q, ks, rfl, _, _, hp, kd⟩ := pr1 h
    exact .inr (.inr ⟨q, ks, rfl, .inl hp, by rw [kd.length]; exact p F H _ gr (.int _)⟩)
  · rename_i r _ _ _
    obtain ⟨v, rfl, hx⟩ := pr1 h
    cases e : r.sq with
    | none => rw [e] at p; exact p.elim
    | some xs =>
      rw [e] at p
      obtain ⟨q, ws, rfl, hq, dq⟩ := sq_ok gr.cfg.sub hx e
      exact .inl ⟨q, ws, rfl, hq, by rw [dq.length]; exact p F H _ gr (.int _)⟩
  · exact p.elim
def gTupleC : List RV → Rs RV
  | [r] => (match r.tv with
    | some xs => .ok (.d (.tuple xs))
    | none => (rsO r.qv).bind fun xs => .ok (.d (.tuple xs)))
  | _ => .no
def rTupN (K : PySem.W.Frag) : List V → Hp → VK → Prop := fun xs H Q => ∃ p ys, xs = [.ref p] ∧ ((SqL K H p ys ∧ ∀ (o : Obj) l, o.dict = none → H l = none → Q (.ref l) (upd H l (.frz o (.tup ys)))) ∨ (SqT K H p ys ∧ Q (.ref p) H))
theorem call_tupN {X : Cx} : CallR X (.type "tuple") (rTupN X.K) := by
  intro pins s σ H xs us Q I r h
  obtain ⟨p, ys, rfl, h⟩ := h
  obtain ⟨u, rfl, rx⟩ := vals1 r
  cases rx
  rcases h with ⟨hq, q⟩ | ⟨hq, q⟩
  rotate_left
  · obtain ⟨_, _, pl, _⟩ := I.tuple hq
    exact call_tuple_same pl ⟨.ref p, H, I, rfl, q⟩
  obtain ⟨its, rv, pl, hz⟩ := I.list hq
  have hl := rv.length
  refine call_tuple_list pl.isList (fun h' kp => ?_) (by simp only [List.size_toArray] <;> omega)
  have I1 : Inv X pins σ H { s with heap := h' } := I.kept (t' := s.toks) kp
  have nn : H h'.objs.size = none := I1.hok.fresh (Nat.le_refl _)
  exact ⟨.ref h'.objs.size, _, I1.laid (t' := s.toks) (o := .frz _ (.tup ys)) (fun _ _ e => Heap.get?_push_of_some _ e) (Nat.le_refl _) ⟨Heap.get?_push_size _ rfl, hz, its, rv, _, Heap.get?_push_size _ rfl, rfl, _, rfl⟩, rfl, q _ _ rfl nn⟩
theorem c_tuple : CaS K ca (rTupN K) gTupleC := by
  intro W σ F0 H0 F H vs as Q gr h p
  unfold gTupleC at p
  split at p
  · rename_i r
    obtain ⟨v, rfl, hx⟩ := pr1 h
    cases e : r.tv with
    | some xs =>
      rw [e] at p
      obtain ⟨q, ws, rfl, a1, a2, dq⟩ := tv_ok gr.cfg.sub hx e
      exact ⟨q, ws, rfl, .inr ⟨a1, p F H _ gr (.tup a2 dq)⟩⟩
    | none =>
      rw [e] at p
      simp only at p
      cases e2 : r.qv with
      | none => rw [e2] at p; exact p.elim
      | some xs =>
        rw [e2] at p
        obtain ⟨q, ws, rfl, a1, dq⟩ := qv_ok gr.cfg.sub hx e2
        refine ⟨q, ws, rfl, .inl ⟨a1, fun o l no hl => ?_⟩⟩
        have g2 := Grow.newF gr.cfg (.frz o (.tup ws)) hl
        exact p _ _ _ (gr.trans g2) (.tup (.frz no upd_same) (DqA.mono g2.ff _ _ dq))
  · exact p.elim
def gListC : List RV → Rs RV
  | [r] => (rsO r.sq).bind fun xs => .ok (.ol xs)
  | _ => .no
def gMin2 : List RV → Rs RV
  | [.d (.int i), .d (.int j)] => okI (if j < i then j else i)
  | _ => .no
def gMax2 : List RV → Rs RV
  | [.d (.int i), .d (.int j)] => okI (if j > i then j else i)
  | _ => .no
theorem c_min2 : CaS K ca (fun xs H Q => ∃ i j, xs = [.int i, .int j] ∧ Q (.int (if j < i then j else i)) H) gMin2 := by
  intro W σ F0 H0 F H vs as Q gr h p
  unfold gMin2 at p
  split at p
  · obtain ⟨v, w, rfl, h1, h2⟩ := pr2 h
    cases h1; cases h2
    exact ⟨_, _, rfl, p F H _ gr (.int _)⟩
  · exact p.elim
theorem c_max2 : CaS K ca (fun xs H Q => ∃ i j, xs = [.int i, .int j] ∧ Q (.int (if j > i then j else i)) H) gMax2 := by
  intro W σ F0 H0 F H vs as Q gr h p
  unfold gMax2 at p
  split at p
  · obtain ⟨v, w, rfl, h1, h2⟩ := pr2 h
    cases h1; cases h2
    exact ⟨_, _, rfl, p F H _ gr (.int _)⟩
  · exact p.elim
def intsD : List PyData → Option (List Int)
  | [] => some []
  | .int i :: xs => (intsD xs).map (i :: ·)
  | _ => none
def boolsD : List PyData → Option (List Bool)
  | [] => some []
  | .bool i :: xs => (boolsD xs).map (i :: ·)
  | _ => none
@[simp] theorem intsD_map (ns : List Int) : intsD (ns.map .int) = some ns := by
  induction ns with
  | nil => rfl
  | cons i ns ih => simp [intsD, ih]
@[simp] theorem boolsD_map (ns : List Bool) : boolsD (ns.map .bool) = some ns := by
  induction ns with
  | nil => rfl
  | cons i ns ih => simp [boolsD, ih]
def ins (x : Int) : List Int → List Int
  | [] => [x]
  | y :: ys => if x ≤ y then x :: y :: ys else y :: ins x ys
def isort : List Int → List Int
  | [] => []
  | x :: xs => ins x (isort xs)
def gSorted : List RV → Rs RV
  | [r] => (rsO r.qv).bind fun xs => (rsO (intsD xs)).bind fun ns => .ok (.ol ((isort ns).map .int))
  | _ => .no
def gAny : List RV → Rs RV
  | [r] => (rsO r.qv).bind fun xs => (rsO (boolsD xs)).bind fun bs => okB (bs.any id)
  | _ => .no
def gAll : List RV → Rs RV
  | [r] => (rsO r.qv).bind fun xs => (rsO (boolsD xs)).bind fun bs => okB (bs.all id)
  | _ => .no
def gSum : List RV → Rs RV
  | [r] => (rsO r.qv).bind fun xs => (rsO (intsD xs)).bind fun bs => okI bs.sum
  | _ => .no
def gStr : List RV → Rs RV
  | [.d (.int i)] => if i.natAbs.log2 < 1920 then .ok (.d (.str (toString i : String))) else .no
  | _ => .no
theorem c_str : CaS K ca (fun xs H Q => ∃ i, xs = [.int i] ∧ i.natAbs.log2 < 1920 ∧ Q (.str (toString i : String)) H) gStr := by
  intro W σ F0 H0 F H vs as Q gr h p
  unfold gStr at p
  split at p
  · obtain ⟨v, rfl, hx⟩ := pr1 h
    cases hx
    split at p
    · rename_i c; exact ⟨_, rfl, c, p F H _ gr (.str _)⟩
    · exact p.elim
  · exact p.elim
def gInt : List RV → Rs RV
  | [.d (.str a)] => (rsO (PySem.intText? a)).bind fun n => if a.length ≤ 640 then okI n else .no
  | _ => .no
theorem c_int : CaS K ca (fun xs H Q => ∃ a n, xs = [.str a] ∧ PySem.intText? a = some n ∧ a.length ≤ 640 ∧ Q (.int n) H) gInt := by
  intro W σ F0 H0 F H vs as Q gr h p
  unfold gInt at p
  split at p
  · rename_i a
    obtain ⟨v, rfl, hx⟩ := pr1 h
    cases hx
    cases e : PySem.intText? a with
    | none => rw [e] at p; exact p.elim
    | some n =>
      rw [e] at p
      simp only [rsO_some, Rs.bind_ok] at p
      split at p
      · rename_i c; exact ⟨_, _, rfl, e, c, p F H _ gr (.int _)⟩
      · exact p.elim
  · exact p.elim
end
section
variable {ca : CA} {W : WX} {X : Cx} {a b e : Expr} {es : List Expr} {fa fb : VEnv → Rs RV} {pos : Pos}
structure VO (ca : CA) (W : WX) (X : Cx) (e : Option Expr) (f : VEnv → Rs (Option Int)) : Prop where
  ex : ∃ t, PO X e t ∧ ∀ B F env σ H Q, StOk X.K ca B F env σ H → (∀ o, f env = .ok o → ∀ F' H', Grow F H F' H' → Q o H') → (∀ c fs, f env = .ex c fs → PostX X.K ca W σ F H c fs) → f env ≠ .no → t σ H Q
def oN : VEnv → Rs (Option Int) := fun _ => .ok none
def oS (f : VEnv → Rs RV) : VEnv → Rs (Option Int) := fun env => (f env).bind fun r => match r with
  | .d (.int i) => .ok (some i)
  | _ => .no
theorem vo_none : VO ca W X none oN := ⟨_, po_none, fun B F env σ H Q st p _ _ => p none rfl F H (Grow.refl st.cfg)⟩
theorem vo_some (h : VE ca W X e fa) : VO ca W X (some e) (oS fa) := by
  obtain ⟨t, pe, se⟩ := h
  refine ⟨_, po_some pe, fun B F env σ H Q st p px pn => ?_⟩
  show t σ H fun x H1 => ∃ i, x = .int i ∧ Q (some i) H1
  refine se B F env σ H _ st ?_
  unfold oS at p px pn
  cases e1 : fa env with
  | no => rw [e1] at pn; exact (pn rfl).elim
  | ex c fs => exact px c fs (by rw [e1]; rfl)
  | ok r =>
    rw [e1] at p pn
    intro F' H' v g q
    simp only [Rs.bind_ok] at p pn
    split at pn
    · rename_i i; cases q; exact ⟨i, rfl, p _ rfl F' H' g⟩
    · exact (pn rfl).elim
def cSl (f : VEnv → Rs RV) (l h : VEnv → Rs (Option Int)) : VEnv → Rs RV := fun env => (f env).bind fun r => (l env).bind fun lo => (h env).bind fun hi => gSl r lo hi
theorem ve_sl {lo hi : Option Expr} {p2 : Pos} {l h : VEnv → Rs (Option Int)} (he : VE ca W X e fa) (hl : VO ca W X lo l) (hh : VO ca W X hi h) : VE ca W X (.Subscript e (.Slice lo hi none p2) pos) (cSl fa l h) := by
  obtain ⟨t, pe, se⟩ := he
  obtain ⟨tl, pl, sl⟩ := hl
  obtain ⟨th, ph, sh⟩ := hh
  refine ⟨_, pe_slice sl_all pe pl ph, fun B F env σ H Q st p => ?_⟩
  show t σ H fun x H1 => tl σ H1 fun l H2 => th σ H2 fun u H3 => rSlAll X.K x l u H3 Q
  refine seqE (PostE X.K ca W σ F H Q) se st p (fun _ _ h => h) (fun h => h) fun r F1 H1 v p1 g1 q1 => ?_
  refine sl B F1 env σ H1 _ (st.grow g1) (fun o eo F2 H2 g2 => ?_) (fun c fs ex => ?_) (fun en => ?_)
  · rw [eo] at p1
    simp only [Rs.bind_ok] at p1
    refine sh B F2 env σ H2 _ ((st.grow g1).grow g2) (fun u eu F3 H3 g3 => ?_) (fun c fs ex => ?_) (fun en => ?_)
    · rw [eu] at p1
      exact s_sl ((g1.trans g2).trans g3) ((q1.grow g2).grow g3) p1
    · rw [ex] at p1; exact PostX.mono (g1.trans g2) p1
    · rw [en] at p1; exact p1
  · rw [ex] at p1; exact PostX.mono g1 p1
  · rw [en] at p1; exact p1
def gRev (r : RV) : Rs RV := (rsO r.qv).bind fun xs => .ok (.ol xs.reverse)
def tyD : PyData → Option String
  | .none => some "NoneType"
  | .bool _ => some "bool"
  | .int _ => some "int"
  | .str _ => some "str"
  | .list _ => some "list"
  | .tuple _ => some "tuple"
  | .dict _ => none
def gIsi (T : String) (r : RV) : Rs RV := (rsO (r.data.bind tyD)).bind fun t => (rsO (kitB t T)).bind okB
end
end VL
namespace VL
open PySem PySem.Spec PyProof.Rows L2
def RV.isOb : RV → Bool
  | .ob _ _ _ => true
  | _ => false
section
variable {K : PySem.W.Frag} {ca : CA} {W : WX} {B : Base} {F H : Hp} {env : VEnv} {σ : L2.St}
theorem own_xd {K : PySem.W.Frag} {H0 F H : Hp} {p : Addr} {r : RV} {xs : List (Str × V)} (o : r.own = true) (h : RVok K H0 F H (.ref p) r) (hx : H p = some (.xd xs)) : False := by
  cases r with
  | ol ys => obtain ⟨a, ws, z, _, _, h2, _⟩ := h; cases z; rw [hx] at h2; cases h2
  | od ys => obtain ⟨a, ws, z, _, _, h2, _⟩ := h; cases z; rw [hx] at h2; cases h2
  | ot ys =>
    obtain ⟨a, ws, z, _, _, h2, _⟩ := h; cases z; rw [hx] at h2
    have h3 := Option.some.inj h2
    have h4 : HO.xd xs = HO.ext _ := h3
    cases h4
  | ob me x fs => obtain ⟨a, z, C, dx, vs, _, h2, _⟩ := h; cases z; rw [hx] at h2; cases h2
  | _ => cases o
theorem StOk.ownAt (st : StOk K ca B F env σ H) {i : Nat} {xs : List PyData} (e : env[i]? = some (some (.ol xs))) : ∃ p vs, σ[i]? = some (some (.ref p)) ∧ B.H p = none ∧ F p = none ∧ H p = some (.lst vs) ∧ DqA K F vs xs := by
  obtain ⟨v, e1, p, vs, rfl, q⟩ := st.sl i _ e
  exact ⟨p, vs, e1, q⟩
theorem ObOk.aside {K : PySem.W.Frag} {H0 F H : Hp} {p a : Addr} {x : Str} {fs : List (Str × FV)} {o' : HO} (h : ObOk K H0 F H a x fs) (ne : a ≠ p) (nq : p ∉ fla H a fs) : ObOk K H0 F (upd H p o') a x fs := by
  have h' := h
  obtain ⟨C, dx, vs, _, _, n0, f0, _⟩ := h'
  exact h.to (Same.refl _) n0 f0 (upd_ne ne) fun q hq ws n f e => ⟨n, f, by rw [upd_ne (show q ≠ p from fun z => nq (by rw [← z]; exact hq))]; exact e⟩
theorem BoOk.aside {K : PySem.W.Frag} {F H : Hp} {p a : Addr} {x : Str} {fs : List (Str × FV)} {o' : HO} (h : BoOk K F H a x fs) (ne : a ≠ p) (nq : p ∉ fla H a fs) : BoOk K F (upd H p o') a x fs :=
  h.to (Same.refl _) (upd_ne ne) fun q hq ws e => by rw [upd_ne (show q ≠ p from fun z => nq (by rw [← z]; exact hq))]; exact e
theorem TabOk.aside {T : List Addr} {F H : Hp} {p : Addr} {o o' : HO} (h : TabOk T F H) (hp : H p = some o) (no : ∀ ps, o ≠ .tbl ps) : TabOk T F (upd H p o') :=
  h.to fun P ps f e => ⟨f, upd_ne fun z => by rw [z, hp] at e; exact no ps (Option.some.inj e)⟩
theorem own_tbl {K : PySem.W.Frag} {H0 F H : Hp} {p : Addr} {r : RV} {ps : Array Value} (o : r.own = true) (h : RVok K H0 F H (.ref p) r) (hx : H p = some (.tbl ps)) : False := by
  cases r with
  | ol ys => obtain ⟨a, ws, z, _, _, h2, _⟩ := h; cases z; rw [hx] at h2; cases h2
  | od ys => obtain ⟨a, ws, z, _, _, h2, _⟩ := h; cases z; rw [hx] at h2; cases h2
  | ot ys =>
    obtain ⟨a, ws, z, _, _, h2, _⟩ := h; cases z; rw [hx] at h2
    have h3 := Option.some.inj h2
    have h4 : HO.tbl ps = HO.ext _ := h3
    cases h4
  | ob me x fs => obtain ⟨a, z, C, dx, vs, _, h2, _⟩ := h; cases z; rw [hx] at h2; cases h2
  | _ => cases o
theorem StOk.write (st : StOk K ca B F env σ H) {i : Nat} {r0 r1 : RV} {p : Addr} {o o' : HO} (e : env[i]? = some (some r0)) (ow : r0.own = true) (es : σ[i]? = some (some (.ref p))) (hp : H p = some o) (n0 : B.H p = none) (f0 : F p = none) (nt : ∀ xs, o' ≠ .tup xs)
    (ok : RVok K B.H F (upd H p o') (.ref p) r1) (ob : r1.isB = false) (nob0 : r0.isOb = false := by rfl) (nob1 : r1.isOb = false := by rfl) : StOk K ca B F (env.set i (some r1)) σ (upd H p o') := by
  have hi : i < env.length := (List.getElem?_eq_some_iff.mp e).1
  have back : ∀ {j : Nat} {r : RV}, (env.set i (some r1))[j]? = some (some r) → (r.isOb = true ∨ r.isB = true) → j ≠ i ∧ env[j]? = some (some r) := fun {j r} ej o => by
    by_cases h : i = j
    · subst h
      rw [List.getElem?_set_self hi] at ej
      cases ej
      rcases o with o | o
      · rw [nob1] at o; cases o
      · rw [ob] at o; cases o
    · rw [List.getElem?_set_ne h] at ej; exact ⟨Ne.symm h, ej⟩
  have owns : ∀ {j : Nat} {r : RV}, (env.set i (some r1))[j]? = some (some r) → r.own = true → ∃ r', env[j]? = some (some r') ∧ r'.own = true := fun {j r} ej o => by
    by_cases h : i = j
    · subst h; exact ⟨r0, e, ow⟩
    · rw [List.getElem?_set_ne h] at ej; exact ⟨r, ej, o⟩
  obtain ⟨v0, ev0, q0⟩ := st.sl i r0 e
  have ev0' : v0 = .ref p := by rw [es] at ev0; cases ev0; rfl
  subst ev0'
  have obq : ∀ {j : Nat} {a : Addr} {me : Bool} {x : Str} {fs : List (Str × FV)}, env[j]? = some (some (.ob me x fs)) → σ[j]? = some (some (.ref a)) → p ∉ fla H a fs := fun {j a me x fs} ej sj hq => st.rg.o1 j i a p me x fs r0 ej sj hq e ow es
  have obp : ∀ {j : Nat} {a : Addr} {me : Bool} {x : Str} {fs : List (Str × FV)}, env[j]? = some (some (.ob me x fs)) → σ[j]? = some (some (.ref a)) → a ≠ p := fun {j a me x fs} ej sj z => by
    by_cases h : j = i
    · subst h; rw [e] at ej; cases ej; cases nob0
    · exact st.dis j i _ r0 a h ej e rfl ow sj (z ▸ es)
  have boq : ∀ {j : Nat} {a : Addr} {x : Str} {fs : List (Str × FV)}, env[j]? = some (some (.bo x fs)) → σ[j]? = some (some (.ref a)) → p ∉ fla H a fs := fun {j a x fs} ej sj hq => by
    obtain ⟨o, ho⟩ := st.rg.o3 j a p x fs ej sj hq
    rw [n0] at ho; cases ho
  have bop : ∀ {j : Nat} {a : Addr} {x : Str} {fs : List (Str × FV)}, env[j]? = some (some (.bo x fs)) → σ[j]? = some (some (.ref a)) → a ≠ p := fun {j a x fs} ej sj z => by
    obtain ⟨o, ho⟩ := st.bo j _ a ej rfl sj
    rw [z, n0] at ho; cases ho
  have fe : ∀ {a : Addr} {fs : List (Str × FV)}, a ≠ p → fla (upd H p o') a fs = fla H a fs := fun h => by unfold fla; rw [upd_ne h]
  refine ⟨st.gr.write n0 f0 hp nt, by simpa using st.len, fun j r ej => ?_, fun j r a ej o z => ?_, fun j k r r' a jk e1 e2 o1 o2 z1 z2 => ?_,
    ⟨st.rg.tb.aside hp (fun ps z => own_tbl ow q0 (z ▸ hp)), fun a b p1 q me x fs r ea za hq eb ob' => ?_, fun a b p1 p2 q me me' x x' fs fs' ab ea za eb zb hq hq' => ?_, fun a p1 q x fs ea za hq => ?_, fun a x fs ea => st.rg.me a x fs (back ea (.inl rfl)).2⟩⟩
  rotate_right 3
  · have ea' := (back ea (.inl rfl)).2
    rw [fe (obp ea' za)] at hq
    obtain ⟨r', eb', ob2⟩ := owns eb ob'
    exact st.rg.o1 a b p1 q me x fs r' ea' za hq eb' ob2
  · have ea' := (back ea (.inl rfl)).2
    have eb' := (back eb (.inl rfl)).2
    rw [fe (obp ea' za)] at hq
    rw [fe (obp eb' zb)] at hq'
    exact st.rg.o2 a b p1 p2 q me me' x x' fs fs' ab ea' za eb' zb hq hq'
  · have ea' := (back ea (.inr rfl)).2
    rw [fe (bop ea' za)] at hq
    exact st.rg.o3 a p1 q x fs ea' za hq
  · by_cases h : i = j
    · subst h
      rw [List.getElem?_set_self hi] at ej
      cases ej
      exact ⟨_, es, ok⟩
    · rw [List.getElem?_set_ne h] at ej
      obtain ⟨w, ew, q⟩ := st.sl j r ej
      refine ⟨w, ew, ?_⟩
      have ne : ∀ a, r.own = true → w = .ref a → a ≠ p := fun a o z y => by
        subst y; subst z
        exact st.dis i j r0 r a h e ej ow o es ew
      have nb : ∀ a, r.isB = true → w = .ref a → a ≠ p := fun a o z y => by
        subst y; subst z
        obtain ⟨ob, hb⟩ := st.bo j r a ej o ew
        rw [n0] at hb; cases hb
      cases r with
      | d x => exact q
      | ol ys => obtain ⟨a, ws, z, n, f2, h2, q4⟩ := q; exact ⟨a, ws, z, n, f2, by rw [upd_ne (ne a rfl z)]; exact h2, q4⟩
      | od ys => obtain ⟨a, ws, z, n, f2, h2, q4⟩ := q; exact ⟨a, ws, z, n, f2, by rw [upd_ne (ne a rfl z)]; exact h2, q4⟩
      | ot ys => obtain ⟨a, ws, z, n, f2, h2, q4⟩ := q; exact ⟨a, ws, z, n, f2, by rw [upd_ne (ne a rfl z)]; exact h2, q4⟩
      | sc ns => exact q
      | t3 x ys kvs => exact t3_mono (Same.refl _) q
      | fd kvs => exact fd_mono (Same.refl _) q
      | ob me x fs => obtain ⟨a, z, h4⟩ := q; subst z; exact ⟨a, rfl, h4.aside (obp ej ew) (obq ej ew)⟩
      | bo x fs => obtain ⟨a, z, h4⟩ := q; subst z; exact ⟨a, rfl, h4.aside (bop ej ew) (boq ej ew)⟩
      | bl ys => obtain ⟨a, ws, z, h2, q4⟩ := q; exact ⟨a, ws, z, by rw [upd_ne (nb a rfl z)]; exact h2, q4⟩
      | bd ys => obtain ⟨a, ws, z, h2, q4⟩ := q; exact ⟨a, ws, z, h2.imp (fun w => by rw [upd_ne (nb a rfl z)]; exact w) (fun ⟨o, w⟩ => ⟨o, by rw [upd_ne (nb a rfl z)]; exact w⟩), q4⟩
      | bt ys => obtain ⟨a, ws, z, h2, q4⟩ := q; exact ⟨a, ws, z, by rw [upd_ne (nb a rfl z)]; exact h2, q4⟩
      | xo a dd c fs =>
        obtain ⟨z, ws, h2, q4⟩ := q
        have hne : dd ≠ p := fun y => by
          subst y
          obtain ⟨v0, ev0, q0⟩ := st.sl i r0 e
          rw [es] at ev0
          cases ev0
          exact own_xd ow q0 h2
        exact ⟨z, ws, by rw [upd_ne hne]; exact h2, q4⟩
  · by_cases h : i = j
    · subst h
      rw [List.getElem?_set_self hi] at ej
      cases ej
      rw [ob] at o; cases o
    · rw [List.getElem?_set_ne h] at ej
      exact st.bo j r a ej o z
  · have own : ∀ (j : Nat) (r : RV), (env.set i (some r1))[j]? = some (some r) → r.own = true → ∃ r', env[j]? = some (some r') ∧ r'.own = true := fun j r ej o => by
      by_cases h : i = j
      · subst h; exact ⟨r0, e, ow⟩
      · rw [List.getElem?_set_ne h] at ej; exact ⟨r, ej, o⟩
    obtain ⟨s1, f1, g1⟩ := own j r e1 o1
    obtain ⟨s2, f2, g2⟩ := own k r' e2 o2
    exact st.dis j k s1 s2 a jk f1 f2 g1 g2 z1 z2
end
section
variable {ca : CA} {W : WX} {X : Cx} {a b e : Expr} {es : List Expr} {fa fb : VEnv → Rs RV} {pos : Pos}
def sApp (i : Nat) (fe : VEnv → Rs RV) : VEnv → Out := fun env => match env[i]? with
  | some (some (.ol xs)) => (fe env).out env fun r => match r.toD with
    | some d => if xs.length ≤ 1000000 then .nx (env.set i (some (.ol (xs ++ [d])))) else .no
    | none => .no
  | _ => .no
theorem vs_app (i : Nat) {x : Str} {p1 p2 p3 : Pos} (he : VE ca W X e fa) (hN : X.N[i]? = some x := by rfl) (hv : Vis X.env.scope x := by first | exact Or.inl rfl | exact Or.inr (Or.inl rfl) | exact Or.inr (Or.inr rfl)) (hd : (x == ("__debug__" : Str)) = false := by decide) (hcd : (x == ("__classdict__" : Str)) = false := by decide)
    (hbase : attributeBase (.Name x p1) "append" X.env (eval (.Name x p1) X.env) = eval (.Name x p1) X.env := by rfl)
    (hfew : ((backTo p3 (starEach (e :: []) X.env)).all (fun x => !x.1) && (backToKw p3 (keywordEach [] X.env)).all (fun x => x.1.isSome)
      && decide ((e :: []).length + ([] : List Keyword).length + (if ([] : List Keyword).isEmpty then 0 else 1) < 30)) = true := by rfl)
    (hline : (p2.endLine == p3.line) = true := by rfl) (hs : starEach (e :: []) X.env = (false, eval e X.env) :: starEach [] X.env := by rfl) (hplain : (backTo p3 (starEach [] X.env)).any (·.1) = false := by rfl)
    (hsw : swapsWith (.Call (.Attribute (.Name x p1) "append" p2) [e] [] p3) none pos.line X.env = pure false := by rfl) :
    VS ca W X (.Expr (.Call (.Attribute (.Name x p1) "append" p2) [e] [] p3) pos) (sApp i fa) := by
  obtain ⟨t, pe, se⟩ := he
  refine ⟨_, ps_expr (pe_bm PySem.F.plainAttrs_list PySem.F.slot_list_append PySem.F.type_list_append mt_append (pe_var hN hv hd hcd) (pa_cons pe pa_nil hs) hbase hfew hline hs hplain) hsw, fun B F env σ H D st p => ?_⟩
  show ∃ v, σ[i]? = some (some v) ∧ (tyV X.K "list" v H ∧ t σ H fun y H1 => rAppend v [y] H1 fun _ H2 => D.nx σ H2)
  unfold sApp at p
  split at p
  · rename_i xs e1
    obtain ⟨a, vs, s1, n0, f0, hp, q⟩ := st.ownAt e1
    refine ⟨.ref a, s1, .inl ⟨rfl, vs, SqL.of hp⟩, ?_⟩
    refine outE se st p fun r F1 H1 v p1 g q1 => ?_
    cases e2 : r.toD with
    | none => rw [e2] at p1; exact p1.elim
    | some d =>
      rw [e2] at p1
      simp only at p1
      split at p1
      · rename_i hz
        obtain ⟨F2, g2, s2, q2⟩ := frz g (Fz.of q1 e2)
        have st2 := st.grow g2
        have hp2 := g2.hh _ _ hp
        have f2 := g2.stillFree f0 hp
        have q3 : DqA X.K F2 (vs ++ [v]) (xs ++ [d]) := (DqA.mono g2.ff _ _ q).append (.cons q2 .nil)
        refine ⟨a, vs, v, rfl, rfl, hp2, by rw [q.length]; exact million hz, ?_⟩
        exact p1 F2 σ _ s2 (st2.write (r1 := .ol (xs ++ [d])) e1 rfl s1 hp2 n0 f2 (fun _ z => by cases z) ⟨a, _, rfl, n0, f2, upd_same, q3⟩ rfl)
      · exact p1.elim
  · exact p.elim
def sStore (i : Nat) (fi fe : VEnv → Rs RV) : VEnv → Out := fun env => match env[i]? with
  | some (some (.ol xs)) => (fe env).out env fun r => (fi env).out env fun ix => match r.toD, ix with
    | some d, .d (.int k) => (match ixN xs.length k with
      | some j => .nx (env.set i (some (.ol (xs.set j d))))
      | none => .no)
    | _, _ => .no
  | _ => .no
def sAug (i : Nat) (g : RV → RV → Rs RV) (fe : VEnv → Rs RV) : VEnv → Out := fun env => match env[i]? with
  | some (some r0) => (fe env).out env fun r => (g r0.bor r).out env fun z => putS i z env
  | _ => .no
end
def spTrue (K : PySem.W.Frag) : Sp := fun vs H Q _ => ∃ (a : Addr) (ns : List Int), vs = [.ref a] ∧ SqL K H a (ns.map V.int) ∧ ns.length ≤ 63 ∧ ∀ H', Q (.bl true) H'
def noTb (H : Hp) : Hp := fun b => match H b with
  | some (.tbl _) => none
  | o => o
theorem noTb_sub (H : Hp) : Same (noTb H) H := fun b o h => by
  unfold noTb at h
  split at h
  · cases h
  · exact h
theorem noTb_get {H : Hp} {a : Addr} {o : HO} [i : NT o] (h : H a = some o) : noTb H a = some o := by
  unfold noTb
  rw [h]
  cases o with
  | tbl ps => exact absurd rfl (i.nt ps)
  | _ => rfl
theorem law_trueT {K : PySem.W.Frag} {ca : CA} {G : List RV → Rs RV} (h : ∀ ns : List Int, ns.length ≤ 63 → G [.sc ns] = .ok (.d (.bool true))) (vs : List V) (H : Hp) (Q : VK) (E : XK) (tb : ∀ P ∈ ca.T, ∃ ps : Array Value, H P = some (.tbl ps) ∧ TriplesOk ps.toList) (s : spTrue K vs H Q E) : spV K ca 1 G vs H Q E := by
  obtain ⟨a, ns, rfl, hS, hl, q⟩ := s
  have sq : SqL K (noTb H) a (ns.map V.int) := by
    rcases hS with (h | ⟨o, h⟩) | h
    · exact .inl (.inl (noTb_get h))
    · exact .inl (.inr ⟨o, noTb_get h⟩)
    · exact .inr h
  refine ⟨rfl, noTb H, [.sc ns], ⟨noTb_sub H, fun _ _ e => noTb_get e, fun a ps e => by
    unfold noTb at e
    split at e
    · cases e
    · rename_i h
      exact h ps e⟩, fun P hP => ?_, .cons ⟨a, rfl, sq⟩ .nil, ?_⟩
  · obtain ⟨ps, e, t⟩ := tb P hP
    exact ⟨by unfold noTb; rw [e], ps, e, t⟩
  rw [h ns hl]
  intro G' H' v g r
  cases r
  exact q H'
end VL
namespace VL
open PySem PySem.Spec PyProof.Rows L2
@[simp] theorem fin_nx (e) : (Out.nx e).fin = .ok (.d .none) := rfl
@[simp] theorem fin_rt (r) : (Out.rt r).fin = .ok r := rfl
@[simp] theorem fin_ex (c fs e) : (Out.ex c fs e).fin = .ex c fs := rfl
@[simp] theorem fin_no : Out.no.fin = .no := rfl
def Out.lp : Out → (VEnv → Out) → Out
  | .nx e, k => k e
  | .ct e, k => k e
  | .bk e, _ => .nx e
  | o, _ => o
@[simp] theorem lp_nx (e k) : (Out.nx e).lp k = k e := rfl
@[simp] theorem lp_ct (e k) : (Out.ct e).lp k = k e := rfl
@[simp] theorem lp_bk (e k) : (Out.bk e).lp k = .nx e := rfl
@[simp] theorem lp_rt (r k) : (Out.rt r).lp k = .rt r := rfl
@[simp] theorem lp_ex (c fs e k) : (Out.ex c fs e).lp k = .ex c fs e := rfl
@[simp] theorem lp_no (k) : Out.no.lp k = .no := rfl
@[simp] theorem loopF_nil (tg f env) : loopF tg f [] env = .nx env := rfl
theorem loopF_cons (tg f x xs env) : loopF tg f (x :: xs) env = match tgE tg x env with
  | none => .no
  | some e1 => (f e1).lp (loopF tg f xs) := by
  unfold loopF
  cases tgE tg x env with
  | none => rfl
  | some e1 => cases h : f e1 <;> simp [h, Out.lp]
theorem loopF_go {α β : Type} {tg : Tg} {f : VEnv → Out} (R : Nat → α → VEnv → Prop) (emb : β → PyData) (step : α → β → α) : ∀ (xs : List β) (j : Nat) (s : α) (env : VEnv),
    (∀ i s env x, xs[i]? = some x → R (j + i) s env → ∃ e1, tgE tg (emb x) env = some e1 ∧ ∃ env', (f e1 = .nx env' ∨ f e1 = .ct env') ∧ R (j + i + 1) (step s x) env') → R j s env → ∃ env', loopF tg f (xs.map emb) env = .nx env' ∧ R (j + xs.length) (xs.foldl step s) env'
  | [], j, s, env, _, h => ⟨env, rfl, h⟩
  | x :: xs, j, s, env, hs, h => by
    obtain ⟨e1, t1, env', fe, r⟩ := hs 0 s env x rfl h
    obtain ⟨env2, l2, r2⟩ := loopF_go R emb step xs (j + 1) (step s x) env' (fun i s env y hy => by
      have := hs (i + 1) s env y (by simpa using hy)
      rw [show j + (i + 1) = j + 1 + i by omega] at this
      exact this) r
    refine ⟨env2, ?_, ?_⟩
    · rw [List.map_cons, loopF_cons, t1]
      rcases fe with fe | fe <;> simp only [fe, Out.lp] <;> exact l2
    · rw [List.length_cons, show j + (xs.length + 1) = j + 1 + xs.length by omega]; exact r2
theorem loopF_rel {α β : Type} {tg : Tg} {f : VEnv → Out} (R : Nat → α → VEnv → Prop) (emb : β → PyData) (step : α → β → α) (xs : List β) (s : α) (env : VEnv)
    (h : ∀ i s env x, xs[i]? = some x → R i s env → ∃ e1, tgE tg (emb x) env = some e1 ∧ ∃ env', (f e1 = .nx env' ∨ f e1 = .ct env') ∧ R (i + 1) (step s x) env') (h0 : R 0 s env) : ∃ env', loopF tg f (xs.map emb) env = .nx env' ∧ R xs.length (xs.foldl step s) env' := by
  have := loopF_go R emb step xs 0 s env (fun i s env x hx r => by rw [Nat.zero_add] at r ⊢; exact h i s env x hx r) h0
  rw [Nat.zero_add] at this
  exact this
@[simp] theorem lcF_nil (tg t fe env) : lcF tg t fe env [] = .ok [] := rfl
theorem lcF_map {β : Type} {tg : Tg} {t : VEnv → Rs Bool} {fe : VEnv → Rs RV} {env : VEnv} (emb : β → PyData) (p : β → Bool) (g : β → PyData) : ∀ (xs : List β),
    (∀ x ∈ xs, ∃ e1, tgE tg (emb x) env = some e1 ∧ t e1 = .ok (p x) ∧ (p x = true → ∃ r, fe e1 = .ok r ∧ r.toD = some (g x))) → lcF tg t fe env (xs.map emb) = .ok ((xs.filter p).map g)
  | [], _ => rfl
  | x :: xs, h => by
    obtain ⟨e1, t1, c1, f1⟩ := h x List.mem_cons_self
    have ih := lcF_map (tg := tg) (t := t) (fe := fe) (env := env) emb p g xs fun y hy => h y (List.mem_cons_of_mem _ hy)
    rw [List.map_cons]
    unfold lcF
    rw [t1]
    simp only
    rw [c1]
    cases hp : p x with
    | false => simp only; rw [ih, List.filter_cons_of_neg (by simp [hp])]
    | true =>
      obtain ⟨r, f2, f3⟩ := f1 hp
      simp only
      rw [f2]
      simp only
      rw [f3]
      simp only
      rw [ih, List.filter_cons_of_pos hp]
      rfl
end VL
namespace VL
open PySem PySem.Spec PyProof.Rows L2
section
variable (f g : VEnv → Out) (fa fb : VEnv → Rs RV) (fA : VEnv → Rs (List RV)) (tb tc : VEnv → Rs Bool) (env : VEnv) (i j : Nat) (x y : PyData) (xs ys : List PyData)
@[simp] theorem e_nil : sNil env = .nx env := rfl
@[simp] theorem e_seq : sSeq f g env = (f env).then g := rfl
@[simp] theorem e_fz : sFz i f env = f (fzE i env) := rfl
@[simp] theorem e_bk : sBk env = .bk env := rfl
@[simp] theorem e_ct : sCt env = .ct env := rfl
@[simp] theorem e_ret : sRet fa env = (fa env).out env fun r => (r.nb).out env .rt := rfl
@[simp] theorem e_retN : sRetN env = .rt (.d .none) := rfl
@[simp] theorem e_drop : sDrop fa env = (fa env).out env fun _ => .nx env := rfl
@[simp] theorem e_set : sSet i fa env = (fa env).out env fun r => putS i r env := rfl
@[simp] theorem e_if : sIf tb f g env = (tb env).out env fun b => if b = true then f env else g env := rfl
@[simp] theorem e_for (tg src) : sFor tg src f env = (src env).out env fun xs => loopF tg f xs env := rfl
@[simp] theorem e_cC : cC x env = .ok (.d x) := rfl
@[simp] theorem e_c2 (h) : c2 h fa fb env = (fa env).bind fun x => (fb env).bind fun y => h x y := rfl
@[simp] theorem e_c1 (h) : c1 h fa env = (fa env).bind h := rfl
@[simp] theorem e_cA (h) : cA h fA env = (fA env).bind h := rfl
@[simp] theorem e_aN : aN env = .ok [] := rfl
@[simp] theorem e_aC : aC fa fA env = (fa env).bind fun x => (fA env).bind fun xs => .ok (x :: xs) := rfl
@[simp] theorem e_cB : cB fa env = (fa env).bind asB := rfl
@[simp] theorem e_asB (b : Bool) : asB (.d (.bool b)) = .ok b := rfl
@[simp] theorem e_bNot : bNot tb env = (tb env).bind fun b => .ok (!b) := rfl
@[simp] theorem e_bAnd : bAnd tb tc env = (tb env).bind fun b => if b = true then tc env else .ok false := rfl
@[simp] theorem e_bOr : bOr tb tc env = (tb env).bind fun b => if b = true then .ok true else tc env := rfl
@[simp] theorem e_vAnd : vAnd fa fb env = (cB fa env).bind fun b => if b = true then fb env else .ok (.d (.bool false)) := rfl
@[simp] theorem e_vOr : vOr fa fb env = (cB fa env).bind fun b => if b = true then .ok (.d (.bool true)) else fb env := rfl
@[simp] theorem e_vNot : vNot fa env = (cB fa env).bind fun b => .ok (.d (.bool (!b))) := rfl
@[simp] theorem e_vIf : vIf tb fa fb env = (tb env).bind fun b => if b = true then fa env else fb env := rfl
@[simp] theorem e_bYes : bYes env = .ok true := rfl
@[simp] theorem e_iL : iL fa env = (fa env).bind gL := rfl
@[simp] theorem e_iT : iT fa env = (fa env).bind gT := rfl
@[simp] theorem e_iLb : iLb fa env = (fa env).bind gLb := rfl
@[simp] theorem e_iR (h) : iR h fA env = (fA env).bind h := rfl
@[simp] theorem e_gL1 : gL (.d (.list xs)) = .ok xs := rfl
@[simp] theorem e_gL2 : gL (.ol xs) = .ok xs := rfl
@[simp] theorem e_gL3 (ns) : gL (.sc ns) = .ok (ns.map .int) := rfl
@[simp] theorem e_gT : gT (.d (.tuple xs)) = .ok xs := rfl
@[simp] theorem e_gLb1 : gLb (.d (.list xs)) = .ok xs := rfl
@[simp] theorem e_gLb2 : gLb (.ol xs) = .ok xs := rfl
@[simp] theorem e_gLb3 : gLb (.bl xs) = .ok xs := rfl
@[simp] theorem e_gLb4 (ns) : gLb (.sc ns) = .ok (ns.map .int) := rfl
@[simp] theorem e_nb1 : (RV.d x).nb = .ok (.d x) := rfl
@[simp] theorem e_nb2 : (RV.ol xs).nb = .ok (.ol xs) := rfl
@[simp] theorem e_bor1 : (RV.d x).bor = .d x := rfl
@[simp] theorem e_bor2 : (RV.ol xs).bor = .bl xs := rfl
@[simp] theorem e_bor3 : (RV.bl xs).bor = .bl xs := rfl
@[simp] theorem e_bor4 (ns) : (RV.sc ns).bor = .sc ns := rfl
@[simp] theorem e_arg1 : (RV.d x).arg = .d x := rfl
@[simp] theorem e_arg2 : (RV.ol xs).arg = .d (.list xs) := rfl
@[simp] theorem e_arg3 : (RV.bl xs).arg = .bl xs := rfl
@[simp] theorem e_arg4 (ns) : (RV.sc ns).arg = .sc ns := rfl
@[simp] theorem e_putd : putS i (.d x) env = if i < env.length then .nx (env.set i (some (.d x))) else .no := rfl
@[simp] theorem e_puto : putS i (.ol xs) env = if i < env.length then .nx (env.set i (some (.ol xs))) else .no := rfl
@[simp] theorem e_toD1 : (RV.d x).toD = some x := rfl
@[simp] theorem e_toD2 : (RV.ol xs).toD = some (.list xs) := rfl
@[simp] theorem e_allD0 : allD [] = some [] := rfl
@[simp] theorem e_allD1 (rs) : allD (.d x :: rs) = (allD rs).map (x :: ·) := by cases h : allD rs <;> simp [allD, h]
@[simp] theorem e_allD2 (rs) : allD (.ol xs :: rs) = (allD rs).map (.list xs :: ·) := by cases h : allD rs <;> simp [allD, h]
@[simp] theorem e_gTupl (rs) : gTupl rs = (rsO (allD rs)).bind fun ds => if ds.length ≤ 1000 then .ok (.d (.tuple ds)) else .no := rfl
@[simp] theorem e_gList (rs) : gList rs = (rsO (allD rs)).bind fun ds => if ds.length ≤ 1000 then .ok (.ol ds) else .no := rfl
@[simp] theorem e_tgnm : tgE (.nm i) x env = if i < env.length then some (env.set i (some (.d x))) else none := rfl
@[simp] theorem e_tgtp (is) : tgE (.tp is) (.tuple xs) env = tgEs is xs env := rfl
@[simp] theorem e_tg0 : tgEs [] [] env = some env := rfl
@[simp] theorem e_tg1 (is) : tgEs (i :: is) (x :: xs) env = if i < env.length then tgEs is xs (env.set i (some (.d x))) else none := rfl
@[simp] theorem e_sq1 : (RV.d (.tuple xs)).sq = some xs := rfl
@[simp] theorem e_sq2 : (RV.d (.list xs)).sq = some xs := rfl
@[simp] theorem e_sq3 : (RV.ol xs).sq = some xs := rfl
@[simp] theorem e_sq4 : (RV.bl xs).sq = some xs := rfl
@[simp] theorem e_sq5 (ns) : (RV.sc ns).sq = some (ns.map .int) := rfl
@[simp] theorem e_qv2 : (RV.d (.list xs)).qv = some xs := rfl
@[simp] theorem e_qv3 : (RV.ol xs).qv = some xs := rfl
@[simp] theorem e_qv4 : (RV.bl xs).qv = some xs := rfl
@[simp] theorem e_qv5 (ns) : (RV.sc ns).qv = some (ns.map .int) := rfl
@[simp] theorem e_data1 : (RV.d x).data = some x := rfl
@[simp] theorem e_data2 : (RV.ol xs).data = some (.list xs) := rfl
@[simp] theorem e_data3 : (RV.bl xs).data = some (.list xs) := rfl
@[simp] theorem e_okI (a : Int) : okI a = .ok (.d (.int a)) := rfl
@[simp] theorem e_okB (a : Bool) : okB a = .ok (.d (.bool a)) := rfl
@[simp] theorem e_i2 (h : Int → Int → Rs RV) (a b : Int) : RV.i2 h (.d (.int a)) (.d (.int b)) = h a b := rfl
@[simp] theorem e_sub (a b : Int) : gSub (.d (.int a)) (.d (.int b)) = .ok (.d (.int (a - b))) := rfl
@[simp] theorem e_mul (a b : Int) : gMul (.d (.int a)) (.d (.int b)) = if a.natAbs < 18446744073709551616 ∨ b.natAbs < 18446744073709551616 then .ok (.d (.int (a * b))) else .no := rfl
@[simp] theorem e_mod (a b : Int) : gMod (.d (.int a)) (.d (.int b)) = if 0 < b then .ok (.d (.int (a % b))) else .no := rfl
@[simp] theorem e_div (a b : Int) : gDiv (.d (.int a)) (.d (.int b)) = if 0 < b ∧ b.natAbs < 1073741824 then .ok (.d (.int (a / b))) else .no := rfl
@[simp] theorem e_pow (a b : Int) : gPow (.d (.int a)) (.d (.int b)) = if 0 ≤ b ∧ b ≤ 1000000 ∧ a.natAbs < 2 ^ 64 then .ok (.d (.int (a ^ b.toNat))) else .no := rfl
@[simp] theorem e_lt (a b : Int) : gLt (.d (.int a)) (.d (.int b)) = .ok (.d (.bool (decide (a < b)))) := rfl
@[simp] theorem e_le (a b : Int) : gLe (.d (.int a)) (.d (.int b)) = .ok (.d (.bool (decide (a ≤ b)))) := rfl
@[simp] theorem e_gt (a b : Int) : gGt (.d (.int a)) (.d (.int b)) = .ok (.d (.bool (decide (b < a)))) := rfl
@[simp] theorem e_ge (a b : Int) : gGe (.d (.int a)) (.d (.int b)) = .ok (.d (.bool (decide (b ≤ a)))) := rfl
@[simp] theorem e_neg (a : Int) : gNeg (.d (.int a)) = .ok (.d (.int (-a))) := rfl
@[simp] theorem e_addI (a b : Int) : gAdd (.d (.int a)) (.d (.int b)) = .ok (.d (.int (a + b))) := rfl
@[simp] theorem e_addS (a b : Str) : gAdd (.d (.str a)) (.d (.str b)) = if a.length + b.length ≤ 1000000 then .ok (.d (.str (a ++ b))) else .no := rfl
@[simp] theorem e_addT : gAdd (.d (.tuple xs)) (.d (.tuple ys)) = if xs.length + ys.length ≤ 1000000 then .ok (.d (.tuple (xs ++ ys))) else .no := rfl
@[simp] theorem e_addL1 : gAdd (.ol xs) (.ol ys) = if xs.length + ys.length ≤ 1000000 then .ok (.ol (xs ++ ys)) else .no := rfl
@[simp] theorem e_addL2 : gAdd (.ol xs) (.bl ys) = if xs.length + ys.length ≤ 1000000 then .ok (.ol (xs ++ ys)) else .no := rfl
@[simp] theorem e_addL3 : gAdd (.bl xs) (.ol ys) = if xs.length + ys.length ≤ 1000000 then .ok (.ol (xs ++ ys)) else .no := rfl
@[simp] theorem e_addL4 : gAdd (.bl xs) (.bl ys) = if xs.length + ys.length ≤ 1000000 then .ok (.ol (xs ++ ys)) else .no := rfl
@[simp] theorem e_addL5 : gAdd (.d (.list xs)) (.ol ys) = if xs.length + ys.length ≤ 1000000 then .ok (.ol (xs ++ ys)) else .no := rfl
@[simp] theorem e_addL6 : gAdd (.d (.list xs)) (.bl ys) = if xs.length + ys.length ≤ 1000000 then .ok (.ol (xs ++ ys)) else .no := rfl
@[simp] theorem e_addL7 : gAdd (.ol xs) (.d (.list ys)) = if xs.length + ys.length ≤ 1000000 then .ok (.ol (xs ++ ys)) else .no := rfl
@[simp] theorem e_addL8 : gAdd (.bl xs) (.d (.list ys)) = if xs.length + ys.length ≤ 1000000 then .ok (.ol (xs ++ ys)) else .no := rfl
@[simp] theorem e_addL9 : gAdd (.d (.list xs)) (.d (.list ys)) = if xs.length + ys.length ≤ 1000000 then .ok (.ol (xs ++ ys)) else .no := rfl
@[simp] theorem e_eq (a b : RV) : gEq a b = (rsO a.data).bind fun x => (rsO b.data).bind fun y => if SeqAt.shaped x = true ∧ SeqAt.shaped y = true then okB (PyData.eqv x y) else .no := rfl
@[simp] theorem e_ne (a b : RV) : gNe a b = (rsO a.data).bind fun x => (rsO b.data).bind fun y => if SeqAt.shaped x = true ∧ SeqAt.shaped y = true then okB (!PyData.eqv x y) else .no := rfl
@[simp] theorem e_in (a b : RV) : gIn a b = (gInB a b).bind okB := rfl
@[simp] theorem e_notIn (a b : RV) : gNotIn a b = (gInB a b).bind fun k => okB (!k) := rfl
@[simp] theorem e_inT (a : Int) : gInB (.d (.int a)) (.d (.tuple xs)) = if SeqAt.shaped (.int a) = true ∧ SeqAt.shaped (.tuple xs) = true then .ok (xs.any fun z => PyData.eqv z (.int a)) else .no := rfl
@[simp] theorem e_inT2 : gInB (.d (.tuple ys)) (.d (.tuple xs)) = if SeqAt.shaped (.tuple ys) = true ∧ SeqAt.shaped (.tuple xs) = true then .ok (xs.any fun z => PyData.eqv z (.tuple ys)) else .no := rfl
@[simp] theorem e_inL1 : gInB (.d x) (.d (.list xs)) = if SeqAt.shaped x = true ∧ SeqAt.shaped (.list xs) = true then .ok (xs.any fun z => PyData.eqv z x) else .no := by cases x <;> rfl
@[simp] theorem e_inL2 : gInB (.d x) (.ol xs) = if SeqAt.shaped x = true ∧ SeqAt.shaped (.list xs) = true then .ok (xs.any fun z => PyData.eqv z x) else .no := by cases x <;> rfl
@[simp] theorem e_inL3 : gInB (.d x) (.bl xs) = if SeqAt.shaped x = true ∧ SeqAt.shaped (.list xs) = true then .ok (xs.any fun z => PyData.eqv z x) else .no := by cases x <;> rfl
@[simp] theorem e_is (a : RV) : gIs a (.d .none) = .ok (.d (.bool (isNone a))) := rfl
@[simp] theorem e_isNot (a : RV) : gIsNot a (.d .none) = .ok (.d (.bool (!isNone a))) := rfl
@[simp] theorem e_isN1 : isNone (.d .none) = true := rfl
@[simp] theorem e_isN2 (a : Int) : isNone (.d (.int a)) = false := rfl
@[simp] theorem e_isN3 : isNone (.d (.tuple xs)) = false := rfl
@[simp] theorem e_isN4 : isNone (.d (.list xs)) = false := rfl
@[simp] theorem e_isN5 : isNone (.ol xs) = false := rfl
@[simp] theorem e_isN6 : isNone (.bl xs) = false := rfl
@[simp] theorem e_isN7 (s) : isNone (.d (.str s)) = false := rfl
@[simp] theorem e_ixT (a : Int) : gIx (.d (.tuple xs)) (.d (.int a)) = (rsO (atI xs a)).bind fun d => .ok (.d d) := rfl
@[simp] theorem e_ixL (a : Int) : gIx (.d (.list xs)) (.d (.int a)) = (rsO (atI xs a)).bind fun d => .ok (.d d) := rfl
@[simp] theorem e_ixO (a : Int) : gIx (.ol xs) (.d (.int a)) = (rsO (atI xs a)).bind fun d => .ok (.d d) := rfl
@[simp] theorem e_ixB (a : Int) : gIx (.bl xs) (.d (.int a)) = (rsO (atI xs a)).bind fun d => .ok (.d d) := rfl
@[simp] theorem e_ixSc (a : Int) (ns) : gIx (.sc ns) (.d (.int a)) = (rsO (atI (ns.map .int) a)).bind fun d => .ok (.d d) := rfl
@[simp] theorem e_ixS (a : Int) (z : Str) : gIx (.d (.str z)) (.d (.int a)) = if z.length ≤ 1000000 then (rsO (atI z.cps.toList a)).bind fun c => .ok (.d (.str ⟨#[c]⟩)) else .no := rfl
@[simp] theorem e_lenT : gLen [.d (.tuple xs)] = .ok (.d (.int xs.length)) := rfl
@[simp] theorem e_lenL : gLen [.d (.list xs)] = .ok (.d (.int xs.length)) := rfl
@[simp] theorem e_lenO : gLen [.ol xs] = .ok (.d (.int xs.length)) := rfl
@[simp] theorem e_lenB : gLen [.bl xs] = .ok (.d (.int xs.length)) := rfl
@[simp] theorem e_lenSc (ns : List Int) : gLen [.sc ns] = .ok (.d (.int ns.length)) := by show okI _ = _; simp
@[simp] theorem e_lenS (z : Str) : gLen [.d (.str z)] = if z.length ≤ 1000000 then .ok (.d (.int z.length)) else .no := rfl
@[simp] theorem e_tupT : gTupleC [.d (.tuple xs)] = .ok (.d (.tuple xs)) := rfl
@[simp] theorem e_tupL : gTupleC [.d (.list xs)] = .ok (.d (.tuple xs)) := rfl
@[simp] theorem e_tupO : gTupleC [.ol xs] = .ok (.d (.tuple xs)) := rfl
@[simp] theorem e_tupB : gTupleC [.bl xs] = .ok (.d (.tuple xs)) := rfl
@[simp] theorem e_lisT : gListC [.d (.tuple xs)] = .ok (.ol xs) := rfl
@[simp] theorem e_lisL : gListC [.d (.list xs)] = .ok (.ol xs) := rfl
@[simp] theorem e_lisO : gListC [.ol xs] = .ok (.ol xs) := rfl
@[simp] theorem e_lisB : gListC [.bl xs] = .ok (.ol xs) := rfl
@[simp] theorem e_min2 (a b : Int) : gMin2 [.d (.int a), .d (.int b)] = .ok (.d (.int (if b < a then b else a))) := rfl
@[simp] theorem e_max2 (a b : Int) : gMax2 [.d (.int a), .d (.int b)] = .ok (.d (.int (if b > a then b else a))) := rfl
@[simp] theorem e_any (r : RV) : gAny [r] = (rsO r.qv).bind fun xs => (rsO (boolsD xs)).bind fun bs => okB (bs.any id) := rfl
@[simp] theorem e_all (r : RV) : gAll [r] = (rsO r.qv).bind fun xs => (rsO (boolsD xs)).bind fun bs => okB (bs.all id) := rfl
@[simp] theorem e_sum (r : RV) : gSum [r] = (rsO r.qv).bind fun xs => (rsO (intsD xs)).bind fun bs => okI bs.sum := rfl
@[simp] theorem e_sorted (r : RV) : gSorted [r] = (rsO r.qv).bind fun xs => (rsO (intsD xs)).bind fun ns => .ok (.ol ((isort ns).map .int)) := rfl
@[simp] theorem e_rev (r : RV) : gRev r = (rsO r.qv).bind fun xs => .ok (.ol xs.reverse) := rfl
theorem e_R1 {a : Int} (h : a.natAbs ≤ 1000000) : gR1 [.d (.int a)] = .ok (rngL 0 a.toNat) := if_pos h
theorem e_R1n {n : Nat} (h : n ≤ 1000000) : gR1 [.d (.int n)] = .ok (rngL 0 n) := e_R1 (a := (n : Int)) h
@[simp] theorem e_sl (l h) : cSl fa l h env = (fa env).bind fun r => (l env).bind fun lo => (h env).bind fun hi => gSl r lo hi := rfl
@[simp] theorem e_oN : oN env = .ok none := rfl
@[simp] theorem e_isi (T : String) (r : RV) : gIsi T r = (rsO (r.data.bind tyD)).bind fun t => (rsO (kitB t T)).bind okB := rfl
@[simp] theorem e_lc (src own tg t) : cLc src own tg t fa env = (src env).bind fun xs => if xs.length ≤ 1000000 then (lcF tg t fa (wipeE env own) xs).bind fun ds => .ok (.ol ds) else .no := rfl
@[simp] theorem e_wipe0 : wipeE env [] = env := rfl
@[simp] theorem e_wipe1 (is) : wipeE env (i :: is) = (wipeE env is).set i none := rfl
theorem e_unp (tg) : sUnp tg fa env = (fa env).out env fun r => match r.toD with
  | some x => (match tgE tg x env with | some env' => .nx env' | none => .no)
  | none => .no := rfl
theorem e_app : sApp i fa env = match env[i]? with
  | some (some (.ol xs)) => (fa env).out env fun r => (match r.toD with
    | some d => if xs.length ≤ 1000000 then .nx (env.set i (some (.ol (xs ++ [d])))) else .no
    | none => .no)
  | _ => .no := rfl
theorem e_V : cV i env = match env[i]? with
  | some (some r) => .ok r.bor
  | _ => .no := rfl
theorem e_retV : sRetV i env = match env[i]? with
  | some (some r) => (r.nb).out env .rt
  | _ => .no := rfl
end
theorem atI_lt {α : Type} {xs : List α} {i : Int} (h0 : 0 ≤ i) (h : i < xs.length) : atI xs i = xs[i.toNat]? := by
  unfold atI ixN
  rw [if_pos h0, if_pos h]
  rfl
@[simp] theorem atI_zero {α : Type} (x : α) (xs : List α) : atI (x :: xs) 0 = some x := by
  have h : 0 < (x :: xs).length := by simp
  rw [atI_lt (Int.le_refl 0) (by omega)]
  rfl
theorem rngL_eq (n : Nat) : rngL 0 n = (List.range n).map fun k : Nat => .int (k : Int) := by
  unfold rngL
  congr 1
  funext k
  simp
@[simp] theorem sh_int (i : Int) : SeqAt.shaped (.int i) = true := rfl
@[simp] theorem sh_none : SeqAt.shaped .none = true := rfl
@[simp] theorem sh_bool (b : Bool) : SeqAt.shaped (.bool b) = true := rfl
theorem can_ints : ∀ ns : List Int, PyData.canLayAll0 (ns.map .int) = true
  | [] => rfl
  | n :: ns => can_ints ns
theorem dep_ints : ∀ ns : List Int, PyData.depthAll (ns.map .int) = 0
  | [] => rfl
  | n :: ns => by rw [List.map_cons, PyData.depthAll, PyData.depth, dep_ints ns]; rfl
@[simp] theorem sh_tup (ns : List Int) : SeqAt.shaped (.tuple (ns.map .int)) = true := by
  unfold SeqAt.shaped
  rw [PyData.depth, dep_ints, PyData.canLay0, can_ints]
  rfl
@[simp] theorem sh_lst (ns : List Int) : SeqAt.shaped (.list (ns.map .int)) = true := by
  unfold SeqAt.shaped
  rw [PyData.depth, dep_ints, PyData.canLay0, can_ints]
  rfl
@[simp] theorem eqv_int (i j : Int) : PyData.eqv (.int i) (.int j) = decide (i = j) := by
  rw [PyData.eqv]
  by_cases h : i = j <;> simp [h]
theorem eqvAll_ints : ∀ xs ys : List Int, PyData.eqvAll (xs.map .int) (ys.map .int) = decide (xs = ys)
  | [], [] => rfl
  | [], _ :: _ => rfl
  | _ :: _, [] => rfl
  | x :: xs, y :: ys => by
    rw [List.map_cons, List.map_cons, PyData.eqvAll, eqvAll_ints xs ys, eqv_int]
    by_cases h : x = y <;> by_cases h2 : xs = ys <;> simp [h, h2]
@[simp] theorem eqv_tup (xs ys : List Int) : PyData.eqv (.tuple (xs.map .int)) (.tuple (ys.map .int)) = decide (xs = ys) := by rw [PyData.eqv, eqvAll_ints]
@[simp] theorem eqv_lst (xs ys : List Int) : PyData.eqv (.list (xs.map .int)) (.list (ys.map .int)) = decide (xs = ys) := by rw [PyData.eqv, eqvAll_ints]
theorem anyI (ns : List Int) (i : Int) : ((ns.map PyData.int).any fun z => PyData.eqv z (.int i)) = decide (i ∈ ns) := by
  rw [List.any_map]
  induction ns with
  | nil => rfl
  | cons n ns ih =>
    rw [List.any_cons, ih]
    simp only [Function.comp, eqv_int]
    by_cases h : n = i
    · simp [h]
    · by_cases h2 : i ∈ ns <;> simp [h, h2, Ne.symm h]
@[simp] theorem anyI' (ns : List Int) (i : Int) : (ns.any ((fun z => PyData.eqv z (.int i)) ∘ PyData.int)) = decide (i ∈ ns) := by rw [← List.any_map]; exact anyI ns i
end VL
namespace VL
open PySem PySem.Spec PyProof.Rows L2
section
variable {ca : CA} {W : WX} {X : Cx} {a b c e : Expr} {es : List Expr} {fa fb fc : VEnv → Rs RV} {pos : Pos} {st : Stmt}
def sNo : VEnv → Out := fun _ => .no
def iAny (K : PySem.W.Frag) (tl : TE) : TI := fun σ H R => tl σ H fun x H1 => ∃ a, x = .ref a ∧ (((∃ xs, SqL K H1 a xs) ∧ R (Itl K a) H1) ∨ ((∃ xs, SqT K H1 a xs) ∧ R (Itt K a) H1))
theorem pi_any {tg : Expr} {tl : TE} (hl : PE X e tl) : PI X tg e (iAny X.K tl) := by
  refine ⟨fun pns s0 σ H R I hyp => ?_⟩
  refine thn (hl.run pns s0 σ H _ I hyp) fun v s1 ⟨x, H1, I1, r1, a, ex, alt⟩ => ?_
  subst ex
  cases r1
  have fresh : ∀ b ∈ [s1.heap.objs.size], b = s1.heap.objs.size := fun b hb => by simpa using hb
  rcases alt with ⟨⟨xs, hq⟩, q⟩ | ⟨⟨xs, hq⟩, q⟩
  · obtain ⟨its, rv, pl, hz⟩ := I1.list hq
    refine wpAny_pyIter_list pl.isList ⟨s1.heap.objs.size, [s1.heap.objs.size], _, _, H1, rfl, I1.kept (t' := s1.toks) fun _ _ k => Heap.get?_push_of_some _ k, turn_list a _, ⟨_, Heap.get?_push_size _ rfl, rfl, rfl⟩, fun b hb => ?_, q⟩
    have eb := fresh b hb
    subst eb
    exact I1.fpOk (Nat.le_refl _) (I1.hok.fresh (Nat.le_refl _))
  · obtain ⟨its, rv, pl, hz⟩ := I1.tuple hq
    have pt : s1.heap.IsTuple a its.toArray := pl
    refine wpAny_pyIter_tuple pt ⟨s1.heap.objs.size, [s1.heap.objs.size], _, _, H1, rfl, I1.kept (t' := s1.toks) fun _ _ k => Heap.get?_push_of_some _ k, turn_tuple a _, ⟨_, Heap.get?_push_size _ rfl, rfl, rfl⟩, fun b hb => ?_, q⟩
    have eb := fresh b hb
    subst eb
    exact I1.fpOk (Nat.le_refl _) (I1.hok.fresh (Nat.le_refl _))
def gAq : RV → Rs (List PyData)
  | .d (.tuple xs) => .ok xs
  | r => gL r
def gAqb : RV → Rs (List PyData)
  | .d (.tuple xs) => .ok xs
  | r => gLb r
def iA (fe : VEnv → Rs RV) : VEnv → Rs (List PyData) := fun env => (fe env).bind gAq
def iAb (fe : VEnv → Rs RV) : VEnv → Rs (List PyData) := fun env => (fe env).bind gAqb
theorem vi_any {tg : Expr} (h : VE ca W X e fa) : VI ca W X tg e (iA fa) := by
  obtain ⟨t, p, s⟩ := h
  refine ⟨_, pi_any p, fun B F env σ H R st q => ?_⟩
  show t σ H fun x H1 => ∃ a, x = .ref a ∧ (((∃ xs, SqL X.K H1 a xs) ∧ R (Itl X.K a) H1) ∨ ((∃ xs, SqT X.K H1 a xs) ∧ R (Itt X.K a) H1))
  refine seqE (PostI X.K ca W σ F H R) s st q (fun _ _ h => h) (fun h => h) fun r F1 H1 v p1 g1 q1 => ?_
  cases r with
  | d x =>
    cases x with
    | list xs =>
      cases q1 with
      | lst h1 h2 => exact ⟨_, rfl, .inl ⟨⟨_, SqL.of (g1.cfg.sub _ _ h1)⟩, p1 _ F1 H1 _ g1 h2 (jw_list (SqL.of h1))⟩⟩
    | tuple xs =>
      cases q1 with
      | tup h1 h2 => exact ⟨_, rfl, .inr ⟨⟨_, same_seqT g1.cfg.sub h1.1⟩, p1 _ F1 H1 _ g1 h2 (jw_tup h1.1)⟩⟩
    | _ => exact p1.elim
  | ol xs =>
    obtain ⟨p, vs, rfl, n0, f, hp, q2⟩ := q1
    have g2 := g1.freeze n0 f hp
    have s2 : Same F1 (upd F1 p (.lst vs)) := fun b u k => by rw [upd_ne (ne_of_none k f)]; exact k
    exact ⟨p, rfl, .inl ⟨⟨_, SqL.of hp⟩, p1 _ _ H1 vs g2 (DqA.mono s2 _ _ q2) (jw_list (SqL.of upd_same))⟩⟩
  | sc ns =>
    obtain ⟨a, rfl, q2⟩ := q1
    exact ⟨a, rfl, .inl ⟨⟨_, g1.cfg.sub.seq q2⟩, p1 _ F1 H1 _ g1 (DqA.of_ints ns) (jw_list q2)⟩⟩
  | _ => exact p1.elim
theorem vj_any {tg : Expr} (h : VE ca W X e fa) : VJ ca W X tg e (iAb fa) := by
  obtain ⟨t, p, s⟩ := h
  refine ⟨_, pi_any p, fun B F env σ H R st q => ?_⟩
  show t σ H fun x H1 => ∃ a, x = .ref a ∧ (((∃ xs, SqL X.K H1 a xs) ∧ R (Itl X.K a) H1) ∨ ((∃ xs, SqT X.K H1 a xs) ∧ R (Itt X.K a) H1))
  refine seqE (PostJ X.K ca W σ F H R) s st q (fun _ _ h => h) (fun h => h) fun r F1 H1 v p1 g1 q1 => ?_
  cases r with
  | d x =>
    cases x with
    | list xs =>
      cases q1 with
      | lst h1 h2 => exact ⟨_, rfl, .inl ⟨⟨_, SqL.of (g1.cfg.sub _ _ h1)⟩, p1 _ F1 H1 _ g1 h2 (jw_list (SqL.of (g1.cfg.sub _ _ h1)))⟩⟩
    | tuple xs =>
      cases q1 with
      | tup h1 h2 => exact ⟨_, rfl, .inr ⟨⟨_, same_seqT g1.cfg.sub h1.1⟩, p1 _ F1 H1 _ g1 h2 (jw_tup (same_seqT g1.cfg.sub h1.1))⟩⟩
    | _ => exact p1.elim
  | ol xs =>
    obtain ⟨p, vs, rfl, n0, f, hp, q2⟩ := q1
    exact ⟨p, rfl, .inl ⟨⟨_, SqL.of hp⟩, p1 _ _ H1 vs g1 q2 (jw_list (SqL.of hp))⟩⟩
  | bl xs =>
    obtain ⟨p, vs, rfl, hp, q2⟩ := q1
    exact ⟨p, rfl, .inl ⟨⟨_, SqL.of hp⟩, p1 _ _ H1 vs g1 q2 (jw_list (SqL.of hp))⟩⟩
  | sc ns =>
    obtain ⟨a, rfl, q2⟩ := q1
    exact ⟨a, rfl, .inl ⟨⟨_, g1.cfg.sub.seq q2⟩, p1 _ F1 H1 _ g1 (DqA.of_ints ns) (jw_list (g1.cfg.sub.seq q2))⟩⟩
  | _ => exact p1.elim
@[simp] theorem e_iA (env : VEnv) : iA fa env = (fa env).bind gAq := rfl
@[simp] theorem e_iAb (env : VEnv) : iAb fa env = (fa env).bind gAqb := rfl
@[simp] theorem e_gAq1 (xs) : gAq (.d (.tuple xs)) = .ok xs := rfl
@[simp] theorem e_gAq2 (xs) : gAq (.d (.list xs)) = .ok xs := rfl
@[simp] theorem e_gAq3 (xs) : gAq (.ol xs) = .ok xs := rfl
@[simp] theorem e_gAqb1 (xs) : gAqb (.d (.tuple xs)) = .ok xs := rfl
@[simp] theorem e_gAqb2 (xs) : gAqb (.d (.list xs)) = .ok xs := rfl
@[simp] theorem e_gAqb3 (xs) : gAqb (.ol xs) = .ok xs := rfl
@[simp] theorem e_gAqb4 (xs) : gAqb (.bl xs) = .ok xs := rfl
@[simp] theorem e_no (env : VEnv) : sNo env = .no := rfl
theorem e_store (i : Nat) (fi fe : VEnv → Rs RV) (env : VEnv) : sStore i fi fe env = match env[i]? with
  | some (some (.ol xs)) => (fe env).out env fun r => (fi env).out env fun ix => (match r.toD, ix with
    | some d, .d (.int k) => (match ixN xs.length k with
      | some j => .nx (env.set i (some (.ol (xs.set j d))))
      | none => .no)
    | _, _ => .no)
  | _ => .no := rfl
def cChI (g g' : RV → RV → Rs RV) (fc : VEnv → Rs RV) (env : VEnv) : RV → RV → Rs RV
  | .d (.int m), .d (.int n) => (g (.d (.int m)) (.d (.int n))).bind fun r => (asB r).bind fun k => if k = true then (fc env).bind fun z => g' (.d (.int n)) z else .ok (.d (.bool false))
  | _, _ => .no
def cCh (g g' : RV → RV → Rs RV) (fa fb fc : VEnv → Rs RV) : VEnv → Rs RV := fun env => (fa env).bind fun x => (fb env).bind fun y => cChI g g' fc env x y
@[simp] theorem e_cCh (g g') (env : VEnv) : cCh g g' fa fb fc env = (fa env).bind fun x => (fb env).bind fun y => cChI g g' fc env x y := rfl
@[simp] theorem e_cChI (g g') (env : VEnv) (m n : Int) : cChI g g' fc env (.d (.int m)) (.d (.int n)) = (g (.d (.int m)) (.d (.int n))).bind fun r => (asB r).bind fun k => if k = true then (fc env).bind fun z => g' (.d (.int n)) z else .ok (.d (.bool false)) := rfl
theorem snd_chain {K : PySem.W.Frag} {r r' : R2} {g g' : RV → RV → Rs RV} {ta tb tc : TE} (hr : Op2S K ca r g) (hr' : Op2S K ca r' g') (sa : SndE K ca W ta fa) (sb : SndE K ca W tb fb) (sc : SndE K ca W tc fc) : SndE K ca W (tChain r r' ta tb tc) (cCh g g' fa fb fc) := by
  intro B F env σ H Q st p
  show ta σ H fun x H1 => tb σ H1 fun y H2 => r x y H2 fun z H3 => ∃ k, z = .bl k ∧ (if k = true then tc σ H3 fun w' H4 => r' y w' H4 Q else Q (.bl false) H3)
  refine seqE (PostE K ca W σ F H Q) sa st p (fun _ _ h => h) (fun h => h) fun x F1 H1 v1 p1 g1 q1 => ?_
  refine seqE (PostE K ca W σ F H Q) sb (st.grow g1) p1 (fun _ _ h => PostX.mono g1 h) (fun h => h) fun y F2 H2 v2 p2 g2 q2 => ?_
  have g02 := g1.trans g2
  unfold cChI at p2
  split at p2
  · rename_i m n
    cases q1
    cases q2
    refine hr W σ F2 H2 F2 H2 _ _ (.d (.int m)) (.d (.int n)) _ (Grow.refl g2.cfg) (.int _) (.int _) ?_
    cases e : g (.d (.int m)) (.d (.int n)) with
    | ex c fs => rw [e] at p2; exact PostX.mono g02 p2
    | no => rw [e] at p2; exact p2
    | ok z =>
      rw [e] at p2
      simp only [Rs.bind_ok] at p2
      intro F3 H3 v3 g3 q3
      have g03 := g02.trans g3
      unfold asB at p2
      split at p2
      · rename_i k
        cases q3
        refine ⟨k, rfl, ?_⟩
        cases k with
        | false =>
          rw [if_neg Bool.false_ne_true]
          simp only [Rs.bind_ok, Bool.false_ne_true, if_false] at p2
          exact p2 F3 H3 _ g03 (.bl _)
        | true =>
          rw [if_pos rfl]
          simp only [Rs.bind_ok, if_true] at p2
          refine seqE (PostE K ca W σ F H Q) sc (st.grow g03) p2 (fun _ _ h => PostX.mono g03 h) (fun h => h) fun w F4 H4 v4 p4 g4 q4 => ?_
          exact hr' W σ F H F4 H4 _ v4 (.d (.int n)) w Q (g03.trans g4) (.int _) (q4.older g03.hh) p4
      · exact p2.elim
  · exact p2.elim
theorem vt_chain {op op' : CmpOp} {r r' : R2} {g g' : RV → RV → Rs RV} (ho : OpR X (compareOp op) r) (hr : Op2S X.K ca r g) (ho' : OpR X (compareOp op') r') (hr' : Op2S X.K ca r' g') (ha : VE ca W X a fa) (hb : VE ca W X b fb) (hc : VE ca W X c fc)
    (hm : lastMarks [op, op'] [b, c] = false := by with_unfolding_all rfl) : VT ca W X (.Compare a [op, op'] [b, c] pos) (cB (cCh g g' fa fb fc)) := by
  obtain ⟨ta, pa, sa⟩ := ha
  obtain ⟨tb, pb, sb⟩ := hb
  obtain ⟨tc, pc, sc⟩ := hc
  exact ⟨_, pt_chain ho ho' pa pb pc hm, snd_test (snd_chain hr hr' sa sb sc)⟩
end
end VL
namespace VL
open PySem PySem.Spec PyProof.Rows L2
theorem e_fzE (i : Nat) (env : VEnv) : fzE i env = match env[i]? with
  | some (some (.ol xs)) => env.set i (some (.d (.list xs)))
  | _ => env := rfl
theorem tyD_list (xs) : tyD (.list xs) = some "list" := rfl
theorem tyD_tuple (xs) : tyD (.tuple xs) = some "tuple" := rfl
theorem tyD_int (a) : tyD (.int a) = some "int" := rfl
theorem kitB_ll : kitB "list" "list" = some true := by decide +kernel
theorem kitB_tt : kitB "tuple" "tuple" = some true := by decide +kernel
theorem kitB_lt : kitB "list" "tuple" = some false := by decide +kernel
theorem kitB_tl : kitB "tuple" "list" = some false := by decide +kernel
theorem kitB_ii : kitB "int" "int" = some true := by decide +kernel
theorem atI_cons {α : Type} (xs : List α) (n : Nat) (h : n < xs.length) : atI xs (n : Int) = xs[n]? := by
  rw [atI_lt (by omega) (by omega)]; rfl
theorem e_at1 {α : Type} (x0 x1 : α) (xs : List α) : atI (x0 :: x1 :: xs) 1 = some x1 := atI_cons _ 1 (by simp)
theorem e_at2 {α : Type} (x0 x1 x2 : α) (xs : List α) : atI (x0 :: x1 :: x2 :: xs) 2 = some x2 := atI_cons _ 2 (by simp)
theorem e_at3 {α : Type} (x0 x1 x2 x3 : α) (xs : List α) : atI (x0 :: x1 :: x2 :: x3 :: xs) 3 = some x3 := atI_cons _ 3 (by simp)
theorem e_at4 {α : Type} (x0 x1 x2 x3 x4 : α) (xs : List α) : atI (x0 :: x1 :: x2 :: x3 :: x4 :: xs) 4 = some x4 := atI_cons _ 4 (by simp)
theorem e_at5 {α : Type} (x0 x1 x2 x3 x4 x5 : α) (xs : List α) : atI (x0 :: x1 :: x2 :: x3 :: x4 :: x5 :: xs) 5 = some x5 := atI_cons _ 5 (by simp)
theorem e_at6 {α : Type} (x0 x1 x2 x3 x4 x5 x6 : α) (xs : List α) : atI (x0 :: x1 :: x2 :: x3 :: x4 :: x5 :: x6 :: xs) 6 = some x6 := atI_cons _ 6 (by simp)
theorem e_at7 {α : Type} (x0 x1 x2 x3 x4 x5 x6 x7 : α) (xs : List α) : atI (x0 :: x1 :: x2 :: x3 :: x4 :: x5 :: x6 :: x7 :: xs) 7 = some x7 := atI_cons _ 7 (by simp)
theorem e_at8 {α : Type} (x0 x1 x2 x3 x4 x5 x6 x7 x8 : α) (xs : List α) : atI (x0 :: x1 :: x2 :: x3 :: x4 :: x5 :: x6 :: x7 :: x8 :: xs) 8 = some x8 := atI_cons _ 8 (by simp)
theorem e_at9 {α : Type} (x0 x1 x2 x3 x4 x5 x6 x7 x8 x9 : α) (xs : List α) : atI (x0 :: x1 :: x2 :: x3 :: x4 :: x5 :: x6 :: x7 :: x8 :: x9 :: xs) 9 = some x9 := atI_cons _ 9 (by simp)
theorem e_atm {α : Type} (xs : List α) (x : α) : atI (xs ++ [x]) (-1) = some x := by
  have h : ixN (xs ++ [x]).length (-1) = some xs.length := by
    unfold ixN
    rw [if_neg (by decide), if_pos (by simp; omega)]
    congr 1
    simp
    omega
  unfold atI
  rw [h]
  simp
theorem eqv_bool (a b : Bool) : PyData.eqv (.bool a) (.bool b) = (a == b) := by cases a <;> cases b <;> rfl
theorem eqv_none : PyData.eqv .none .none = true := rfl
theorem tyD_bool (a) : tyD (.bool a) = some "bool" := rfl
theorem tyD_str (a) : tyD (.str a) = some "str" := rfl
theorem tyD_none : tyD .none = some "NoneType" := rfl
theorem kitB_bb : kitB "bool" "bool" = some true := by decide +kernel
theorem kitB_nb : kitB "NoneType" "bool" = some false := by decide +kernel
theorem kitB_bi : kitB "bool" "int" = some true := by decide +kernel
theorem kitB_ib : kitB "int" "bool" = some false := by decide +kernel
theorem kitB_nl : kitB "NoneType" "list" = some false := by decide +kernel
theorem kitB_nt : kitB "NoneType" "tuple" = some false := by decide +kernel
theorem e_andB (a b : Bool) : (if a = true then Rs.ok (RV.d (.bool b)) else Rs.ok (RV.d (.bool false))) = .ok (.d (.bool (a && b))) := by cases a <;> rfl
theorem e_orB (a b : Bool) : (if a = true then Rs.ok (RV.d (.bool true)) else Rs.ok (RV.d (.bool b))) = .ok (.d (.bool (a || b))) := by cases a <;> rfl
theorem e_andR (a b : Bool) : (if a = true then Rs.ok b else Rs.ok false) = .ok (a && b) := by cases a <;> rfl
theorem e_orR (a b : Bool) : (if a = true then Rs.ok true else Rs.ok b) = .ok (a || b) := by cases a <;> rfl
end VL
namespace VL
open PySem PySem.Spec PyProof.Rows L2
section
variable {ca : CA} {W : WX} {X : Cx} {e : Expr} {es : List Expr} {pos kpos : Pos} {nm : Option Str} {kws : List Keyword}
def cAK (h : List RV → List RV → Rs RV) (f g : VEnv → Rs (List RV)) : VEnv → Rs RV := fun env => (f env).bind fun rs => (g env).bind fun zs => h rs zs
@[simp] theorem e_cAK (h) (f g : VEnv → Rs (List RV)) (env : VEnv) : cAK h f g env = (f env).bind fun rs => (g env).bind fun zs => h rs zs := rfl
end
end VL
namespace VL
open PySem PySem.Spec PyProof.Rows L2
abbrev tk (P : Program) (w : World) : HeapKind P w (List Int) := tupleKind (intKind P w)
end VL
namespace VL
open PySem PySem.Spec PyProof.Rows L2
section
variable {κ : Type} [DecidableEq κ]
def dGet (kvs : List (κ × PyData)) (k : κ) : Option PyData := (kvs.find? fun p => decide (p.1 = k)).map (·.2)
def dPut (kvs : List (κ × PyData)) (k : κ) (d : PyData) : List (κ × PyData) :=
  if (kvs.any fun p => decide (p.1 = k)) = true then kvs.map (fun p => if p.1 = k then (p.1, d) else p) else kvs ++ [(k, d)]
def dDrop (kvs : List (κ × PyData)) (k : κ) : List (κ × PyData) := kvs.filter fun p => decide (p.1 ≠ k)
@[simp] theorem dGet_nil (k : κ) : dGet [] k = none := rfl
theorem dGet_cons (p : κ × PyData) (kvs : List (κ × PyData)) (k : κ) : dGet (p :: kvs) k = if p.1 = k then some p.2 else dGet kvs k := by
  unfold dGet
  by_cases h : p.1 = k <;> simp [List.find?_cons, h]
theorem dGet_any (kvs : List (κ × PyData)) (k : κ) : (kvs.any fun p => decide (p.1 = k)) = (dGet kvs k).isSome := by
  induction kvs with
  | nil => rfl
  | cons p kvs ih =>
    rw [List.any_cons, dGet_cons, ih]
    by_cases h : p.1 = k <;> simp [h]
end
def keyD : PyData → Option Key
  | .int i => some (.inl i)
  | .str x => some (.inr x)
  | _ => none
def keyTD : PyData → Option (List Int)
  | .tuple xs => intsD xs
  | _ => none
section
variable {K : PySem.W.Frag} {ca : CA} {H0 F H : Hp} {v : V} {r : RV}
theorem KTl.len {xs : List (List Int × Addr × Value)} {kvs : List (List Int × PyData)} (h : KTl K F xs kvs) : xs.length = kvs.length := Paired.length h
theorem atKey_cons (p : List Int × Addr × Value) (xs : List (List Int × Addr × Value)) (k : List Int) : atKey (p :: xs) k = if p.1 = k then some p.2 else atKey xs k := by
  unfold atKey
  by_cases h : p.1 = k <;> simp [List.find?_cons, h]
theorem KTl.at {xs : List (List Int × Addr × Value)} {kvs : List (List Int × PyData)} (h : KTl K F xs kvs) (k : List Int) : (atKey xs k = none ∧ dGet kvs k = none) ∨ ∃ q d v, atKey xs k = some q ∧ dGet kvs k = some d ∧ RelV v q.2 ∧ Dq K F v d := by
  induction h with
  | nil => exact .inl ⟨rfl, rfl⟩
  | @cons p q ps qs h1 h2 ih =>
    rw [atKey_cons, dGet_cons, ← h1.1]
    by_cases e : p.1 = k
    · rw [if_pos e, if_pos e]
      obtain ⟨v, r1, r2⟩ := h1.2.2
      exact .inr ⟨_, _, v, rfl, rfl, r1, r2⟩
    · rw [if_neg e, if_neg e]; exact ih
theorem KTl.repl {xs : List (List Int × Addr × Value)} {kvs : List (List Int × PyData)} (h : KTl K F xs kvs) (k : List Int) {u : Value} {w : V} {d : PyData} (r : RelV w u) (dq : Dq K F w d) : KTl K F (xs.map (putAt k u)) (kvs.map fun p => if p.1 = k then (p.1, d) else p) := by
  induction h with
  | nil => exact .nil
  | @cons p q ps qs h1 h2 ih =>
    rw [List.map_cons, List.map_cons]
    refine .cons ?_ ih
    unfold putAt
    by_cases e : p.1 = k
    · rw [if_pos e, if_pos (h1.1.symm.trans e)]; exact ⟨h1.1, h1.2.1, w, r, dq⟩
    · rw [if_neg e, if_neg (fun z => e (h1.1.trans z))]; exact h1
theorem KTl.put {xs : List (List Int × Addr × Value)} {kvs : List (List Int × PyData)} (h : KTl K F xs kvs) (k : List Int) {b : Addr} {u : Value} {w : V} {d : PyData} (hb : SqN K F b (k.map V.int)) (r : RelV w u) (q : Dq K F w d) : KTl K F (storedH xs k b u) (dPut kvs k d) := by
  have e : (kvs.any fun p => decide (p.1 = k)) = (atKey xs k).isSome := by
    rw [dGet_any]
    rcases h.at k with ⟨a, b⟩ | ⟨q, d, v, a, b, _⟩ <;> rw [a, b] <;> rfl
  unfold storedH dPut
  rw [e]
  by_cases c : (atKey xs k).isSome = true
  · rw [if_pos c, if_pos c]; exact h.repl k r q
  · rw [if_neg c, if_neg c]; exact Paired.snoc h ⟨rfl, hb, w, r, q⟩
theorem KD.at {xs : List (Key × V)} {kvs : List (Key × PyData)} (h : KD K F xs kvs) (k : Key) : (valV xs k = none ∧ dGet kvs k = none) ∨ ∃ v d, valV xs k = some v ∧ dGet kvs k = some d ∧ Dq K F v d := by
  induction h with
  | nil => exact .inl ⟨rfl, rfl⟩
  | @cons p q ps qs h1 h2 ih =>
    rw [dGet_cons, ← h1.1]
    by_cases e : p.1 = k
    · rw [if_pos e, valV_pos e]; exact .inr ⟨_, _, rfl, rfl, h1.2⟩
    · rw [if_neg e, valV_neg e]; exact ih
theorem KD.put {xs : List (Key × V)} {kvs : List (Key × PyData)} (h : KD K F xs kvs) (k : Key) {w : V} {d : PyData} (q : Dq K F w d) : KD K F (putK xs k w) (dPut kvs k d) := by
  have e : (kvs.any fun p => decide (p.1 = k)) = (xs.any fun p => decide (p.1 = k)) := by
    rw [dGet_any, valV_any]
    rcases h.at k with ⟨a, b⟩ | ⟨q, d, a, b, _⟩ <;> rw [a, b] <;> rfl
  unfold putK dPut
  rw [e]
  by_cases c : (xs.any fun p => decide (p.1 = k)) = true
  · rw [if_pos c, if_pos c]
    clear e c
    induction h with
    | nil => exact .nil
    | @cons p r ps qs h1 h2 ih =>
      rw [List.map_cons, List.map_cons]
      refine .cons ?_ ih
      by_cases e : p.1 = k
      · rw [if_pos e, if_pos (h1.1.symm.trans e)]; exact ⟨h1.1, q⟩
      · rw [if_neg e, if_neg (fun z => e (h1.1.trans z))]; exact h1
  · rw [if_neg c, if_neg c]; exact Paired.snoc h ⟨rfl, q⟩
theorem KD.drop {xs : List (Key × V)} {kvs : List (Key × PyData)} (h : KD K F xs kvs) (k : Key) : KD K F (dropK xs k) (dDrop kvs k) := by
  unfold dropK dDrop
  induction h with
  | nil => exact .nil
  | @cons p r ps qs h1 h2 ih =>
    rw [List.filter_cons, List.filter_cons, ← h1.1]
    by_cases e : p.1 = k
    · simp only [e, ne_eq, not_true, decide_false, Bool.false_eq_true, if_false]; exact ih
    · simp only [e, ne_eq, not_false_eq_true, decide_true, if_true]; exact .cons h1 ih
def RV.dk : RV → Option (List (Key × PyData))
  | .od kvs => some kvs
  | .bd kvs => some kvs
  | _ => none
def RV.dt : RV → Option (List (List Int × PyData))
  | .ot kvs => some kvs
  | .bt kvs => some kvs
  | _ => none
def RV.sd : RV → Option PyData
  | .d x => some x
  | _ => none
def gGetDK (kvs : List (Key × PyData)) (b : RV) : Rs (Option PyData) := (rsO (b.sd.bind keyD)).bind fun k => .ok (dGet kvs k)
def gGetDT (kvs : List (List Int × PyData)) (b : RV) : Rs (Option PyData) := (rsO (b.sd.bind keyTD)).bind fun k => .ok (dGet kvs k)
def gAt (a b : RV) : Rs (Option PyData) := match a.dk with
  | some kvs => gGetDK kvs b
  | none => (match a.dt with
    | some kvs => gGetDT kvs b
    | none => .no)
def gIxD (a b : RV) : Rs RV := (gAt a b).bind fun o => (rsO o).bind fun d => .ok (.d d)
def gInD (a b : RV) : Rs RV := (gAt b a).bind fun o => okB o.isSome
def gNotInD (a b : RV) : Rs RV := (gAt b a).bind fun o => okB (!o.isSome)
end
section
variable {ca : CA} {W : WX} {X : Cx} {a b e : Expr} {es : List Expr} {fa fb fc : VEnv → Rs RV} {pos apos cpos : Pos}
theorem hu1 {A : Around} {k : Nat} (hr : Room k A) : A.units + 1 < cLine := by have := hr.un; omega
def cDT : VEnv → Rs RV := fun _ => .ok (.ot [])
def cDK : VEnv → Rs RV := fun _ => .ok (.od [])
def cDisp1 (fa fb : VEnv → Rs RV) : VEnv → Rs RV := fun env => (fa env).bind fun x => (fb env).bind fun y => (rsO (x.sd.bind keyTD)).bind fun k => (rsO y.toD).bind fun d => .ok (.ot [(k, d)])
def cDispS (x y z w : Str) : VEnv → Rs RV := fun _ => .ok (.od [(.inr x, .str y), (.inr z, .str w)])
def stR (r0 : RV) (ix : RV) (d : PyData) : Rs RV := match r0 with
  | .ol xs => (match ix with
    | .d (.int k) => (rsO (ixN xs.length k)).bind fun j => .ok (.ol (xs.set j d))
    | _ => .no)
  | .od kvs => (rsO (ix.sd.bind keyD)).bind fun k => if kvs.length ≤ 1000000 then .ok (.od (dPut kvs k d)) else .no
  | .ot kvs => (rsO (ix.sd.bind keyTD)).bind fun k => if kvs.length ≤ 1000000 then .ok (.ot (dPut kvs k d)) else .no
  | _ => .no
def sStoreA (i : Nat) (fi fe : VEnv → Rs RV) : VEnv → Out := fun env => match env[i]? with
  | some (some r0) => (fe env).out env fun r => (fi env).out env fun ix => (rsO r.toD).out env fun d => (stR r0 ix d).out env fun r1 => .nx (env.set i (some r1))
  | _ => .no
def sDel (i : Nat) (fi : VEnv → Rs RV) : VEnv → Out := fun env => match env[i]? with
  | some (some (.od kvs)) => (fi env).out env fun ix => (rsO (ix.sd.bind keyD)).out env fun k => if (dGet kvs k).isSome = true then .nx (env.set i (some (.od (dDrop kvs k)))) else .no
  | _ => .no
def cGet1 (fa fb : VEnv → Rs RV) : VEnv → Rs RV := fun env => (fa env).bind fun x => match x.dk with
  | some kvs => (fb env).bind fun y => (gGetDK kvs y).bind fun o => .ok (.d (o.getD .none))
  | none => (match x.dt with
    | some kvs => (fb env).bind fun y => (gGetDT kvs y).bind fun o => .ok (.d (o.getD .none))
    | none => .no)
def cGet2 (fa fb fc : VEnv → Rs RV) : VEnv → Rs RV := fun env => (fa env).bind fun x => match x.dk with
  | some kvs => (fb env).bind fun y => (fc env).bind fun z => (rsO z.sd).bind fun d => (gGetDK kvs y).bind fun o => .ok (.d (o.getD d))
  | none => (match x.dt with
    | some kvs => (fb env).bind fun y => (fc env).bind fun z => (rsO z.sd).bind fun d => (gGetDT kvs y).bind fun o => .ok (.d (o.getD d))
    | none => .no)
variable (f : VEnv → Out) (env : VEnv) (i : Nat) (x y : PyData) (kvs : List (Key × PyData)) (kts : List (List Int × PyData))
theorem e_aug (g : RV → RV → Rs RV) : sAug i g fa env = match env[i]? with
  | some (some r0) => (fa env).out env fun r => (g r0.bor r).out env fun z => putS i z env
  | _ => .no := rfl
theorem e_decT {h : Decidable True} : @decide True h = true := by simp
theorem e_decF {h : Decidable False} : @decide False h = false := by simp
theorem e_cDispS (x y z w : Str) : cDispS x y z w env = .ok (.od [(.inr x, .str y), (.inr z, .str w)]) := rfl
theorem e_cDT : cDT env = .ok (.ot []) := rfl
theorem e_cDK : cDK env = .ok (.od []) := rfl
theorem e_cDisp1 : cDisp1 fa fb env = (fa env).bind fun x => (fb env).bind fun y => (rsO (x.sd.bind keyTD)).bind fun k => (rsO y.toD).bind fun d => .ok (.ot [(k, d)]) := rfl
theorem e_storeA (fi fe : VEnv → Rs RV) : sStoreA i fi fe env = match env[i]? with
  | some (some r0) => (fe env).out env fun r => (fi env).out env fun ix => (rsO r.toD).out env fun d => (stR r0 ix d).out env fun r1 => .nx (env.set i (some r1))
  | _ => .no := rfl
theorem e_stR1 (xs : List PyData) (k : Int) : stR (.ol xs) (.d (.int k)) x = (rsO (ixN xs.length k)).bind fun j => .ok (.ol (xs.set j x)) := rfl
theorem e_stR2 (r : RV) : stR (.od kvs) r x = (rsO (r.sd.bind keyD)).bind fun k => if kvs.length ≤ 1000000 then .ok (.od (dPut kvs k x)) else .no := rfl
theorem e_stR3 (r : RV) : stR (.ot kts) r x = (rsO (r.sd.bind keyTD)).bind fun k => if kts.length ≤ 1000000 then .ok (.ot (dPut kts k x)) else .no := rfl
theorem e_sd1 : (RV.d x).sd = some x := rfl
theorem e_keyD1 (k : Int) : keyD (.int k) = some (.inl k) := rfl
theorem e_keyD2 (k : Str) : keyD (.str k) = some (.inr k) := rfl
theorem e_keyTD (xs : List PyData) : keyTD (.tuple xs) = intsD xs := rfl
theorem e_intsD (ns : List Int) : intsD (ns.map .int) = some ns := intsD_map ns
theorem e_intsD0 : intsD [] = some [] := rfl
theorem e_borT : (RV.ot kts).bor = .bt kts := rfl
theorem e_borT2 : (RV.bt kts).bor = .bt kts := rfl
theorem e_borK : (RV.od kvs).bor = .bd kvs := rfl
theorem e_borK2 : (RV.bd kvs).bor = .bd kvs := rfl
theorem e_argT : (RV.ot kts).arg = .bt kts := rfl
theorem e_argT2 : (RV.bt kts).arg = .bt kts := rfl
theorem e_argK : (RV.od kvs).arg = .bd kvs := rfl
theorem e_argK2 : (RV.bd kvs).arg = .bd kvs := rfl
theorem e_nbT : (RV.ot kts).nb = .ok (.ot kts) := rfl
theorem e_nbK : (RV.od kvs).nb = .ok (.od kvs) := rfl
theorem e_putT : putS i (.ot kts) env = if i < env.length then .nx (env.set i (some (.ot kts))) else .no := rfl
theorem e_putK : putS i (.od kvs) env = if i < env.length then .nx (env.set i (some (.od kvs))) else .no := rfl
theorem e_gAt1 (b : RV) : gAt (.bt kts) b = gGetDT kts b := rfl
theorem e_gAt2 (b : RV) : gAt (.bd kvs) b = gGetDK kvs b := rfl
theorem e_gAt3 (b : RV) : gAt (.od kvs) b = gGetDK kvs b := rfl
theorem e_gAt4 (b : RV) : gAt (.ot kts) b = gGetDT kts b := rfl
theorem e_gGetDK (b : RV) : gGetDK kvs b = (rsO (b.sd.bind keyD)).bind fun k => .ok (dGet kvs k) := rfl
theorem e_gGetDT (b : RV) : gGetDT kts b = (rsO (b.sd.bind keyTD)).bind fun k => .ok (dGet kts k) := rfl
theorem e_gIxD (a b : RV) : gIxD a b = (gAt a b).bind fun o => (rsO o).bind fun d => .ok (.d d) := rfl
theorem e_gInD (a b : RV) : gInD a b = (gAt b a).bind fun o => okB o.isSome := rfl
theorem e_gNotInD (a b : RV) : gNotInD a b = (gAt b a).bind fun o => okB (!o.isSome) := rfl
theorem e_cGet1 : cGet1 fa fb env = (fa env).bind fun x => match x.dk with
  | some kvs => (fb env).bind fun y => (gGetDK kvs y).bind fun o => .ok (.d (o.getD .none))
  | none => (match x.dt with
    | some kvs => (fb env).bind fun y => (gGetDT kvs y).bind fun o => .ok (.d (o.getD .none))
    | none => .no) := rfl
theorem e_cGet2 : cGet2 fa fb fc env = (fa env).bind fun x => match x.dk with
  | some kvs => (fb env).bind fun y => (fc env).bind fun z => (rsO z.sd).bind fun d => (gGetDK kvs y).bind fun o => .ok (.d (o.getD d))
  | none => (match x.dt with
    | some kvs => (fb env).bind fun y => (fc env).bind fun z => (rsO z.sd).bind fun d => (gGetDT kvs y).bind fun o => .ok (.d (o.getD d))
    | none => .no) := rfl
theorem e_dk1 : (RV.bd kvs).dk = some kvs := rfl
theorem e_dk2 : (RV.od kvs).dk = some kvs := rfl
theorem e_dk3 : (RV.bt kts).dk = none := rfl
theorem e_dk4 : (RV.ot kts).dk = none := rfl
theorem e_dt1 : (RV.bt kts).dt = some kts := rfl
theorem e_dt2 : (RV.ot kts).dt = some kts := rfl
theorem e_del (fi : VEnv → Rs RV) : sDel i fi env = match env[i]? with
  | some (some (.od kvs)) => (fi env).out env fun ix => (rsO (ix.sd.bind keyD)).out env fun k => if (dGet kvs k).isSome = true then .nx (env.set i (some (.od (dDrop kvs k)))) else .no
  | _ => .no := rfl
end
end VL
namespace VL
open PySem PySem.Spec PyProof.Rows L2
theorem lookup_mem {l : List (Str × Value)} {y : Str} {u : Value} (nd : (l.map (·.1)).Nodup) (h : (y, u) ∈ l) : l.lookup y = some u := by
  induction l with
  | nil => cases h
  | cons p l ih =>
    obtain ⟨x, v⟩ := p
    rw [List.map_cons, List.nodup_cons] at nd
    rcases List.mem_cons.mp h with e | h
    · cases e; simp [List.lookup]
    · have ne : y ≠ x := fun z => nd.1 (z ▸ List.mem_map_of_mem (f := (·.1)) h)
      have e : (y == x) = false := by simpa using ne
      simp only [List.lookup, e]
      exact ih nd.2 h
theorem lookup_zip {ps : List Str} {us : List Value} {i : Nat} {y : Str} {u : Value} (nd : ps.Nodup) (hl : us.length = ps.length) (h1 : ps[i]? = some y) (h2 : us[i]? = some u) : (ps.zip us).reverse.lookup y = some u := by
  refine lookup_mem ?_ (List.mem_reverse.mpr ?_)
  · rw [List.map_reverse, List.map_fst_zip (by omega)]; unfold List.Nodup; rw [List.pairwise_reverse]; exact nd.imp fun h => Ne.symm h
  · have : (ps.zip us)[i]? = some (y, u) := by rw [List.getElem?_zip_eq_some]; exact ⟨h1, h2⟩
    exact List.mem_of_getElem? this
abbrev envI (qual : Str) (scope : Scope) (L f : Addr) (cdv : Value) (cc : Addr) : Env := PySem.W.ksEnv qual scope L f cdv cc
def cxI (CX : CXT) (P : Program) (w : World) (K : PySem.W.Frag) (mg : Str → Option Value) (base : Heap) (N : List Str) (qual : Str) (scope : Scope) (f : Addr) (cd : Value) (cc : Addr) (A : Around) (outer : List Env) (s : Shared) (H : Hp) (E : XK) : Cx where
  prog := P
  w := w
  K := K
  mg := mg
  base := base
  A := A.deeper (envI qual scope s.heap.objs.size f cd cc)
  N := N
  s_0 := s
  H_0 := H
  env := envI qual scope s.heap.objs.size f cd cc
  outer := outer
  stack := envI qual scope s.heap.objs.size f cd cc :: outer
  ex := []
  calm := true
  fn := fun x => x != "__class__"
  pn := []
  xe := fun e s' => wpAny (model P w) (A.deeper (envI qual scope s.heap.objs.size f cd cc)) (leaving (envI qual scope s.heap.objs.size f cd cc) e) (fun _ s'' => CX outer H s E e s'') (fun e' s'' => CX outer H s E e' s'') s'
structure IniS (N ps : List Str) (sc : Scope) : Prop where
  kind : sc.kind = .function
  co : sc.isCoroutine = false
  gen : sc.isGenerator = false
  nd : N.Nodup
  pre : N.take ps.length = ps
  par : ∀ x ∈ ps, sc.names.lookup x = some .local
  nocell : ∀ y ∈ sc.names, y.2 ≠ .cell
  free : ∀ y ∈ sc.names, y.2 = .free → y.1 = ("__class__" : Str)
  sup : sc.names.lookup ("super" : Str) = some .globalImplicit
  cls : sc.names.lookup ("__class__" : Str) = some .free
structure IniF (P : Program) (K : PySem.W.Frag) (mg : Str → Option Value) (C fI : Addr) (name qual : Str) (params : Arguments) (body : List Stmt) (scope : Scope) (fd : FuncData) (cc : Addr) (cdv : Value) : Prop where
  oex : OexC K C
  fn : ∃ (dV kV doc pm : Value) (an : Option Addr) (ct oc : Value) (od : Option Addr) (osl : Array (Option Value)), fd = PySem.W.ksFn name qual params body scope dV kV doc pm an cdv ct cc ∧ K.lookup fI = some ⟨oc, od, .func fd, osl⟩
  code : PySem.W.codeIn K cdv qual = true
  codeO : ∃ (cda : Addr) (ccl : Value) (cdd : Option Addr) (vs : Array Value) (ccs : Array (Option Value)) (file : Str) (tf : Tok), cdv = .ref cda ∧ K.lookup cda = some ⟨ccl, cdd, .fields vs, ccs⟩ ∧ vs[2]? = some (.str file tf) ∧ ((P.main.file : Str) == file) = true
  cell : ∃ (cl : Value) (cld : Option Addr) (csl : Array (Option Value)), K.lookup cc = some ⟨cl, cld, .cell (some (.ref C)), csl⟩
  sup : ∃ (cd cdT : ClassData) (T : Addr), PySem.W.clsIn K C = some cd ∧ PySem.W.clsIn K T = some cdT ∧ cd.mro = .ref C :: cdT.mro ∧ PySem.W.findIn K (.ref T) "__init__" = some (some (.builtin "ValueError.__init__"))
  subV : PySem.W.subIn K (.ref C) (.type "ValueError") = some true
  opq : PySem.W.nsIn K PySem.cStatics "thirdparty.any" = some none
  nsup : mg "super" = none
  top : (P.main.scope.names.lookup ("super" : Str)).isSome = false
theorem invI {CX : CXT} {P : Program} {w : World} {K : PySem.W.Frag} {mg : Str → Option Value} {base : Heap} {N ps : List Str} {qual : Str} {scope : Scope} {f cc : Addr} {cd : Value} {A : Around} {outer : List Env} {s : Shared} {h₀ : Heap} {t' : Nat} {H : Hp} {E : XK} {us : List Value} {vs : List V} {c : Value}
    (S : IniS N ps scope) (hd : A.handled = none) (e0 : Env0 P w K mg base A outer s H) (hl : vs.length = ps.length) (r : Vals vs us) (hcell : ∃ o, K.lookup cc = some o ∧ o.data = .cell (some c))
    (ns : h₀.Ns s.heap.objs.size (fun x => (ps.zip us).reverse.lookup x)) (hk : ∀ b o, s.heap.get? b = some o → h₀.get? b = some o) :
    Inv (cxI CX P w K mg base N qual scope f cd cc A outer s H E) [] (start N vs) H { s with heap := h₀, toks := t' } := by
  have hpl : ps.length ≤ N.length := by have := congrArg List.length S.pre; rw [List.length_take] at this; omega
  have noA : ∀ b : Addr, b ∉ (cxI CX P w K mg base N qual scope f cd cc A outer s H E).ex := fun b z => absurd (show b ∈ ([] : List Addr) from z) (by simp)
  obtain ⟨oc, hoc, hcd⟩ := hcell
  have hb : base.get? cc = some oc := e0.mod.kin _ _ hoc
  have onlyC : ∀ {x : Str} {b : Addr}, (cxI CX P w K mg base N qual scope f cd cc A outer s H E).env.cells.lookup x = some b → x = ("__class__" : Str) ∧ b = cc := fun {x b} h => by
    have h' : List.lookup x [(("__class__" : Str), cc)] = some b := h
    by_cases e : x = ("__class__" : Str)
    · subst e
      simp [List.lookup] at h'
      exact ⟨rfl, h'.symm⟩
    · have e' : (x == ("__class__" : Str)) = false := by simpa using e
      simp [List.lookup, e'] at h'
  refine ⟨⟨e0.mod, S.kind, rfl, rfl, Nat.le_refl _, fun y z b h1 h2 => ?_, fun y hy => ?_, fun y b hy h => ?_, fun _ => hd, Around.frames_deeper e0.frames, .inr ⟨rfl, rfl⟩, fun b z => absurd z (noA b), e0.bs, e0.bsz, fun b _ _ => noA b, fun b z => absurd z (noA b), e0.funs, e0.frf⟩,
    rfl, e0.bare, Un.kept hk, ⟨_, ns, fun i y v h1 h2 h3 => ?_⟩, fun y b h => ?_, e0.hok.fresh (Nat.le_refl _), fun y b h => ?_, fun p hp => absurd (show p ∈ ([] : List (Addr × Obj)) from hp) (by simp), e0.hok.kept hk, ?_⟩
  · exact (onlyC h1).1.trans (onlyC h2).1.symm
  · have hy : scope.names.lookup y = some .cell ∨ scope.names.lookup y = some .free := hy
    rcases hy with hy | hy
    · exact absurd rfl (S.nocell _ (PySem.mem_of_lookup hy))
    · have := S.free _ (PySem.mem_of_lookup hy) rfl
      exact ⟨cc, by subst this; rfl⟩
  · have := (onlyC h).1
    subst this
    have hy' : ((("__class__" : Str)) != (("__class__" : Str))) = true := hy
    exact absurd hy' (by decide)
  · have hi : i < vs.length := by
      unfold L2.start at h2
      by_cases hi : i < vs.length
      · exact hi
      · rw [List.getElem?_append_right (by simpa using hi)] at h2
        rw [List.getElem?_replicate] at h2
        split at h2 <;> cases h2
    have ha : vs[i]? = some v := by
      unfold L2.start at h2
      rw [List.getElem?_append_left (by simpa using hi), List.getElem?_map] at h2
      cases e : vs[i]? with
      | none => rw [e] at h2; cases h2
      | some a => rw [e] at h2; cases h2; rfl
    obtain ⟨u, hu, rv⟩ := r.get ha
    have hp : ps[i]? = some y := by
      rw [← S.pre, List.getElem?_take_of_lt (by omega)]; exact h1
    have ndP : ps.Nodup := by rw [← S.pre]; exact S.nd.sublist (List.take_sublist _ _)
    exact ⟨u, rv, .inl ⟨S.par y (List.mem_of_getElem? hp), lookup_zip ndP (by rw [← Paired.length r, hl]) hp hu⟩⟩
  · obtain ⟨rfl, rfl⟩ := onlyC h
    exact ⟨_, _, hk _ _ ((e0.bs _ _ hb).1), hcd⟩
  · obtain ⟨rfl, rfl⟩ := onlyC h
    exact (e0.bs _ _ hb).2
  · unfold L2.start
    show _ = N.length
    rw [List.length_append, List.length_map, List.length_replicate]
    omega
end VL
namespace VL
open PySem PySem.Spec PyProof.Rows L2
section
open PySem.W PySem.Calls
variable {prog : Program} {w : World} {A : Around} {E : Value → Shared → Prop} {h : Heap} {g : Array GenState} {d : Drawn} {t : Nat} {os : OsState}
variable {nm q : Str} {C N : Addr} {bs bm : List Value} {hdct : Bool} {sn : List Str} {sub : List Value} {ab : Bool} {col : Option Bool} {dd : Option Addr} {k0 k1 k2 k3 k5 : Option Value}
theorem call_mw {u e t0 : Addr} {rest : List Value} {Q : Value → Shared → Prop}
    (hC : h.get? C = some (excClassObj nm q C N bs bm hdct sn sub ab col dd k0 k1 k2 k3 k5 "ValueError.__new__")) (he : h.get? e = some (HandSPX.excO C t0)) (hu : h.get? u = some (kxs_mw "ValueError.__init__" e)) (hrest : rest.length ≤ sizeLine)
    (hq : ∀ h' t1, (∀ b o, b ≠ e → h.get? b = some o → h'.get? b = some o) → h'.get? e = some (HandSPX.excO C t1) → Q .none ⟨h', g, d, t, os⟩) :
    wpAny (model prog w) A (call (.ref u) rest) Q E ⟨h, g, d, t, os⟩ := by
  refine wpAny_call (codeAny_of_tree ?_)
  show wpAny _ A.in1 (callAny (.ref u) ⟨rest, []⟩) _ _ _
  simp only [callAny]
  refine wpAny_bind (wpAny_load hu ?_)
  simp only [kxs_mw, show (Value.type "method-wrapper" == Value.type "method" || Value.type "method-wrapper" == Value.type "builtin_function_or_method" || Value.type "method-wrapper" == Value.type "method-wrapper") = true by decide, if_true]
  refine KFB.if_so (by decide) ?_
  refine wpAny_bind (ESX.check_bound F.excBase_ValueError hC he rfl ?_)
  refine wpAny_bind (wpAny_pure (wpAny_pure ?_))
  refine ⟨Code.quiet_builtin _ (by decide +kernel), codeAny_builtin F.excBase_ValueError.initEntry ?_⟩
  rw [Around.under_plainId F.excBase_ValueError.init.plain _]
  wp_walk
  refine hq _ h.objs.size (fun b o hb ho => ?_) ?_
  · rw [Heap.get?_update_other _ _ (Ne.symm hb)]
    exact Heap.get?_push_of_some _ ho
  · rw [Heap.get?_update_self _ (Heap.get?_push_of_some _ he) rfl]
    rfl
end
section
open PySem.W
variable {X : Cx} {pins : List (Addr × Obj)} {σ : L2.St} {H : Hp} {s : Shared} {C fI : Addr} {name qual : Str} {params : Arguments} {body : List Stmt} {scope : Scope} {fd : FuncData} {cc : Addr} {cdv : Value}
theorem boot_super : bootBuiltins "super" = some (.type "super") := by first | rfl | kernel_rfl
theorem super_ok {L a : Addr} {ar : Arg} {e : Expr} {p0 p1 p2 p3 : Pos} {te : TE} {pl : Sem Bool} {Q : Value → Shared → Prop} {E : Value → Shared → Prop}
    (T : IniF X.prog X.K X.mg C fI name qual params body scope fd cc cdv) (hX : X.env = envI qual scope L fI cdv cc) (hA : X.env.kindOf ("super" : Str) = some .globalImplicit) (hcl : X.env.kindOf ("__class__" : Str) = some .free) (hpar : (params.posonlyargs ++ params.args).head? = some ar)
    (hself : X.N[0]? = some ar.arg) (hloc : X.env.kindOf ar.arg = some .local) (I : Inv X pins σ H s) (hσ : σ[0]? = some (some (V.ref a))) (ha : H a = some (exo a C none)) (pe : PE X e te) (hte : ∀ Q : VK, (∀ v, Q v H) → te σ H Q)
    (hq : ∀ s', Inv X pins σ H s' → Q .none s') (hE : E = X.xe)
    (hev : eval (.Call (.Attribute (.Call (.Name "super" p0) [] [] p1) "__init__" p2) [e] [] p3) X.env = (do
      let ov ← attributeBase (.Call (.Name "super" p0) [] [] p1) "__init__" X.env (eval (.Call (.Name "super" p0) [] [] p1) X.env)
      standAt p2.atName
      let (f, first) ← holding [ov] (getMethod ov "__init__" pl)
      callWith p3 f first (backTo p3 (starEach [e] X.env)) []))
    (he : starEach [e] X.env = (false, eval e X.env) :: starEach [] X.env) (hpl : (backTo p3 (starEach [] X.env)).any (·.1) = false) :
    _root_.PySem.wpAt (model X.prog X.w) X.A (.func body X.env) (eval (.Call (.Attribute (.Call (.Name "super" p0) [] [] p1) "__init__" p2) [e] [] p3) X.env) Q E s := by
  subst hE
  obtain ⟨nm, q, N, bs, bm, sn, sub, ab, col, dd, k0, k1, k2, k3, k5, hC, hbm⟩ := T.oex.cls
  obtain ⟨dV, kV, doc, pm, an, ct, oc, od, osl, rfl, lk⟩ := T.fn
  obtain ⟨cda, ccl, cdd, vs, ccs, file, tf, rfl, lkc, hvs, hfile⟩ := T.codeO
  obtain ⟨cl, cld, csl, lkcell⟩ := T.cell
  obtain ⟨cd, cdT, TT, hcd, hcdT, hmro, hfind⟩ := T.sup
  refine ks_wpAt_MethodCall (pl := pl) ?_ hev
  refine ks_wpAt_super_base (env := X.env) hA hcl rfl (by rw [hX]) (I.kIn _ _ lk) rfl hpar (by rw [hX]) (I.kIn _ _ lkc) rfl hvs hfile T.top ?_
  obtain ⟨mb, h1, h2⟩ := I.mod.blt
  refine ks_loadName_global I.ok.kind hA (PySem.Calls.loadGlobal_builtin (by rw [I.ok.glob]; exact I.mod.glob.keeps I.bk) T.nsup (by rw [I.ok.blt]; exact h1.keeps I.bk) ((h2 "super" (by decide)).trans boot_super) ⟨rfl, ?_⟩)
  refine wpAny_loadName_free I.ok.kind hcl (by rw [hX]; rfl) ⟨_, I.kIn _ _ lkcell, rfl⟩ ?_
  obtain ⟨m, hn, hlk⟩ := I.loc
  obtain ⟨u, ru, look⟩ := hlk 0 ar.arg (.ref a) hself hσ (.inl hloc)
  obtain rfl : u = Value.ref a := ru
  have hm : m ar.arg = some (Value.ref a) := by
    rcases look with ⟨_, z⟩ | ⟨z, _⟩
    · exact z
    · rw [hloc] at z
      rcases z with z | z <;> cases z
  refine wpAny_loadName_local I.ok.kind hloc hn hm ?_
  obtain ⟨t1, hae⟩ := exo_at I.hok ha
  have fr : ∀ {b : Addr} {s1 : Shared}, Inv X pins σ H s1 → b ∈ X.fs → ∃ o, s1.heap.get? b = some o := fun {b s1} J hb => by
    obtain ⟨_, o, ho, _⟩ := J.ok.funs.mem hb
    exact J.base.there b o ho (fun z => J.ok.exfs b z hb)
  obtain ⟨hh, g, d, t, os⟩ := s
  refine ks_wpAny_isType_cls (I.kIn _ _ hC) rfl ⟨rfl, ?_⟩
  have hsub : mroIn X.K C (.ref C) = some true := by
    unfold mroIn
    rw [hcd, Option.bind_some, hmro]
    simp
  refine ks_wpAny_call_super (I.kIn _ _ hC) rfl hae rfl (fun c z => by cases z) (looks_mroIn I.kIn hsub) (fun h' hso k => ?_)
  have I1 : Inv X pins σ H ⟨h', g, d, t, os⟩ := I.kept (t' := t) k
  obtain ⟨t2, hae1⟩ := exo_at I1.hok ha
  have IA : InstAt h' a ({ cls := .ref C, dict := none, data := .fields #[.ref t2, .none, .none, .none, .bool false, .none] } : Obj) C none := ⟨hae1, rfl, rfl, trivial⟩
  refine kxs_getMethod kxs_ValueError hso (looks_opaque I1.kIn T.opq) (l₀ := cd.mro) (fun A Q E s k q => wpAny_bind ((looks_clsIn I1.kIn hcd) A _ E s k (wpAny_pure q))) (l := cdT.mro) (by rw [hmro]; exact ESX.drop_own _ _) I1.kIn ?_ (IA.type.andThen (looks_subIn I1.kIn T.subV)) (ks_ne I1.kIn IA hcd) (by decide) ?_
  · unfold findIn at hfind
    unfold clsIn at hcdT
    split at hcdT
    · rename_i c' d' cd' sl' ho
      cases hcdT
      dsimp only at hfind
      rw [ho] at hfind
      exact hfind
    · cases hcdT
  have kp : ∀ b o, h'.get? b = some o → (h'.push (kxs_mw "ValueError.__init__" a)).get? b = some o := fun b o e => Heap.get?_push_of_some _ e
  have I2 : Inv X pins σ H ⟨h'.push (kxs_mw "ValueError.__init__" a), g, d, t + 1, os⟩ := I1.kept (t' := t + 1) kp
  have hu : (h'.push (kxs_mw "ValueError.__init__" a)).get? h'.objs.size = some (kxs_mw "ValueError.__init__" a) := Heap.get?_push_at rfl rfl
  have I3 : Inv X ((h'.objs.size, kxs_mw "ValueError.__init__" a) :: pins) σ H ⟨h'.push (kxs_mw "ValueError.__init__" a), g, d, t + 1, os⟩ := I2.pins_of fun p hp => by
    rcases List.mem_cons.mp hp with rfl | hp
    · refine ⟨hu, I1.hok.fresh (Nat.le_refl _), fun z => ?_, fun z => ?_, fun v z => by cases z⟩
      · obtain ⟨_, ⟨oL, _, _, hoL, _⟩, _⟩ := I1.loc
        have := Heap.lt_size (show h'.get? X.env.locals = some oL from hoL)
        have z' : h'.objs.size = X.env.locals := z
        rw [← z'] at this
        exact Nat.lt_irrefl _ this
      · obtain ⟨o, ho⟩ := fr I1 z
        exact absurd (Heap.lt_size (show h'.get? h'.objs.size = some o from ho)) (Nat.lt_irrefl _)
    · exact I2.pin p (List.mem_append_right _ hp)
  show wpAny _ X.A (callWith p3 (.ref h'.objs.size) [] (backTo p3 (starEach [e] X.env)) []) Q X.xe _
  have pa := pa_cons pe pa_nil he
  refine kxs_callWith (i := "ValueError.__init__") (x := a) (by rw [he]; show (false || (backTo p3 (starEach [] X.env)).any (·.1)) = false; rw [hpl]; rfl) ?_
  have run := pa.run p3 ((h'.objs.size, kxs_mw "ValueError.__init__" a) :: pins) _ σ H (fun vs H1 => vs.length = 1 ∧ H1 = H) I3 (hte _ fun v => ⟨rfl, rfl⟩)
  rw [he] at run ⊢
  refine PySem.Calls.evalArgs_plain (wpAny_mono run (fun us s1 hs => ?_) fun _ _ z => z)
  obtain ⟨ws, H1, J1, r1, hlen, rfl⟩ := hs
  obtain ⟨hu1, _⟩ := J1.pin (h'.objs.size, kxs_mw "ValueError.__init__" a) (List.mem_append_right _ List.mem_cons_self)
  refine ⟨hu1, ?_⟩
  obtain ⟨t3, hae3⟩ := exo_at J1.hok ha
  have J2 : Inv X pins σ H1 s1 := J1.pins_of fun p hp => J1.pin p (List.mem_append_right _ (List.mem_cons_of_mem _ hp))
  obtain ⟨hp1, g1, d1, t4, os1⟩ := s1
  refine call_mw (J2.kIn _ _ hC) hae3 hu1 (by show us.length ≤ sizeLine; rw [← Paired.length r1, hlen, sizeLine_eq]; omega) (fun h2 t5 k2 hx => ?_)
  have J := J2.write (t' := t4) (x := a) (e := a) (o := exo a C none) (by rw [ha]; exact True.intro) (.inl rfl) k2 ⟨_, hx⟩ (exo_ok hx)
  have eu : upd H1 a (exo a C none) = H1 := by
    funext b
    by_cases hb : b = a
    · rw [hb, upd_same, ha]
    · rw [upd_ne hb]
  rw [eu] at J
  exact hq _ J
end
section
variable {P : Program} {w : World} {K : PySem.W.Frag} {mg : Str → Option Value} {base : Heap} {C fI : Addr} {name qual : Str} {params : Arguments} {scope : Scope} {fd : FuncData} {cc : Addr} {cdv : Value}
def spI (C : Addr) (N ps : List Str) (t : TS) : Sp := fun vs H Q E => vs.length = ps.length ∧ ∃ (a : Addr) (ws : List V), vs = .ref a :: ws ∧ H a = some (exo a C none) ∧ t { nx := fun _ H' => Q .non H', rt := Q } (L2.start N vs) H
theorem init_ok {N ps : List Str} {k : Nat} {ar : Arg} {e : Expr} {p0 p1 p2 p3 p4 : Pos} {pl : Addr → Sem Bool} {rest : List Stmt} {t : TS} (S : IniS N ps scope)
    (T : IniF P K mg C fI name qual params (.Expr (.Call (.Attribute (.Call (.Name "super" p0) [] [] p1) "__init__" p2) [e] [] p3) p4 :: rest) scope fd cc cdv) (hpar : (params.posonlyargs ++ params.args).head? = some ar) (hself : ps[0]? = some ar.arg)
    (hev : ∀ L, eval (.Call (.Attribute (.Call (.Name "super" p0) [] [] p1) "__init__" p2) [e] [] p3) (envI qual scope L fI cdv cc) = (do
      let ov ← attributeBase (.Call (.Name "super" p0) [] [] p1) "__init__" (envI qual scope L fI cdv cc) (eval (.Call (.Name "super" p0) [] [] p1) (envI qual scope L fI cdv cc))
      standAt p2.atName
      let (f, first) ← holding [ov] (getMethod ov "__init__" (pl L))
      callWith p3 f first (backTo p3 (starEach [e] (envI qual scope L fI cdv cc))) []))
    (he : ∀ L, starEach [e] (envI qual scope L fI cdv cc) = (false, eval e (envI qual scope L fI cdv cc)) :: starEach [] (envI qual scope L fI cdv cc)) (hpl : ∀ L, (backTo p3 (starEach [] (envI qual scope L fI cdv cc))).any (·.1) = false)
    (hin : ∀ L, interactive (envI qual scope L fI cdv cc) = false) (hsw : ∀ L, swapsWith (.Call (.Attribute (.Call (.Name "super" p0) [] [] p1) "__init__" p2) [e] [] p3) none p4.line (envI qual scope L fI cdv cc) = pure false)
    (hbody : ∀ (A : Around) (outer : List PySem.Env) (s : Shared) (H : Hp) (E : XK) (vs : List V), vs.length = ps.length → (∃ te, PE (cxI (L2.CX P w) P w K mg base N qual scope fI cdv cc A outer s H E) e te ∧ ∀ Q : VK, (∀ v, Q v H) → te (L2.start N vs) H Q) ∧ PSs (cxI (L2.CX P w) P w K mg base N qual scope fI cdv cc A outer s H E) rest t) :
    FnOk P w K mg base (L2.CX P w) (k + 1) fI fd ps (spI C N ps t) := by
  refine ⟨fun vs H Q E h => h.1, fun A outer s H args us vs Q E hr e0 hb r hsp => ?_⟩
  obtain ⟨hl, a, ws, rfl, ha, ht⟩ := hsp
  have KX : K.In s.heap := e0.mod.kin.keeps fun b o e => (e0.bs b o e).1
  have lim : s.heap.NoLimit := e0.mod.nolimit.keeps fun b o e => (e0.bs b o e).1
  obtain ⟨dV, kV, doc, pm, an, ct, oc, od, osl, hfd, lk⟩ := id T.fn
  obtain ⟨cl, cld, csl, lkcell⟩ := T.cell
  have hl1 : us.length = ps.length := by rw [← Paired.length r, hl]
  subst hfd
  refine PySem.ks_codeAny_call_defAt (binds := ps.zip us) hr.depth (KX _ _ lk) rfl lim (PySem.W.codeRec_of KX T.code) rfl hb S.nocell (fun x hx => S.par _ (List.of_mem_zip hx).1) (fun h₀ ns hk => ?_) S.co S.gen S.kind
  have I := invI (CX := L2.CX P w) (w := w) (N := N) (qual := qual) (f := fI) (cd := cdv) (E := E) (t' := s.toks + (ps.zip us).length) S hr.hd e0 hl r ⟨_, lkcell, rfl⟩ ns hk
  obtain ⟨⟨te, pe, hte⟩, prest⟩ := hbody A outer s H E _ hl
  have hN0 : N[0]? = some ar.arg := by
    have hp : 0 < ps.length := by
      cases hps : ps with
      | nil => rw [hps] at hself; cases hself
      | cons _ _ => simp
    rw [← hself, ← S.pre, List.getElem?_take_of_lt hp]
  refine PySem.ks_wpAt_execs_cons (PySem.ks_wpAt_Expr_any ?_ (hin _) (hsw _))
  refine super_ok (X := cxI (L2.CX P w) P w K mg base N qual scope fI cdv cc A outer s H E) (pl := pl s.heap.objs.size) T rfl S.sup S.cls hpar hN0 (S.par _ (List.mem_of_getElem? hself)) I rfl ha pe hte (fun s' J => ?_) rfl (hev _) (he _) (hpl _)
  refine PySem.wpAt_of_wpAny (wpAny_mono (prest.run [] s' _ H _ J ht) (fun fl s2 hs => ?_) fun e s2 hs => hs)
  have fin : ∀ {σ' : L2.St} {H' : Hp} {v : V} {u : Value}, Inv (cxI (L2.CX P w) P w K mg base N qual scope fI cdv cc A outer s H E) [] σ' H' s2 → RelV v u → Q v H' → CE outer P w H s Q u s2 :=
    fun {σ' H' v u} J rv q => ⟨v, H', J.os, J.bare, J.base, J.hok, rv, q⟩
  cases fl with
  | ret u =>
    obtain ⟨v, σ', H', J, rv, q⟩ := hs
    exact fin J rv q
  | next =>
    obtain ⟨σ', H', J, q⟩ := hs
    exact fin (v := V.non) (u := Value.none) J rfl q
  | brk =>
    obtain ⟨_, _, _, q⟩ := hs
    exact False.elim q
  | cont =>
    obtain ⟨_, _, _, q⟩ := hs
    exact False.elim q
end
end VL
namespace VL
open PySem PySem.Spec PyProof.Rows L2
def fldD (flds : List (Str × Nat)) (ds : List PyData) : Option (List (Str × PyData)) := flds.mapM fun p => (ds[p.2]?).map fun d => (p.1, d)
def fldV (flds : List (Str × Nat)) (ws : List V) : Option (List (Str × V)) := flds.mapM fun p => (ws[p.2]?).map fun d => (p.1, d)
theorem fld_kd {K : PySem.W.Frag} {F : Hp} : ∀ {flds : List (Str × Nat)} {ws : List V} {ds : List PyData} {fs : List (Str × PyData)}, DqA K F ws ds → fldD flds ds = some fs → ∃ xs, fldV flds ws = some xs ∧ KD K F xs fs
  | [], _, _, _, _, h => by
    cases h
    exact ⟨[], rfl, .nil⟩
  | (f, i) :: flds, ws, ds, fs, q, h => by
    unfold fldD at h
    rw [List.mapM_cons] at h
    cases e : ds[i]? with
    | none => rw [e] at h; cases h
    | some d =>
      rw [e] at h
      cases e2 : fldD flds ds with
      | none =>
        unfold fldD at e2
        rw [e2] at h; cases h
      | some r =>
        obtain ⟨xs, h1, h2⟩ := fld_kd q e2
        unfold fldD at e2
        rw [e2] at h
        cases h
        have go : ∀ {ws : List V} {ds : List PyData} {i : Nat}, DqA K F ws ds → ds[i]? = some d → ∃ v, ws[i]? = some v ∧ Dq K F v d := by
          intro ws ds i q
          induction ws generalizing ds i with
          | nil => cases q; intro z; simp at z
          | cons w ws ih =>
            cases q with
            | cons q1 q2 =>
              intro z
              cases i with
              | zero => simp at z; subst z; exact ⟨w, rfl, q1⟩
              | succ i => obtain ⟨v, a, b⟩ := ih (i := i) q2 (by simpa using z); exact ⟨v, by simpa using a, b⟩
        obtain ⟨v, a, b⟩ := go q e
        refine ⟨(f, v) :: xs, ?_, .cons ⟨rfl, b⟩ h2⟩
        unfold fldV at h1 ⊢
        rw [List.mapM_cons, a]
        simp only [Option.map_some, Option.pure_def, Option.bind_eq_bind, Option.bind_some, h1]
theorem outA {K : PySem.W.Frag} {ca : CA} {W : WX} {B : Base} {F H : Hp} {env : VEnv} {σ : L2.St} {t : TA} {f : VEnv → Rs (List RV)} {Q : List V → Hp → Prop} {D : Ends} {k : List RV → Out} (s : SndA K ca W t f) (st : StOk K ca B F env σ H)
    (post : PostS K ca W B F D ((f env).out env k)) (h : ∀ r F1 H1 vs, PostS K ca W B F1 D (k r) → Grow F H F1 H1 → Paired (fun v r => RVok K H F1 H1 v r) vs r → Q vs H1) : t σ H Q := by
  refine s B F env σ H Q st ?_
  cases e : f env with
  | ok r => rw [e] at post; exact fun F' H' v g q => h r F' H' v (PostS.mono g.ff post) g q
  | ex c fs => rw [e] at post; exact exOut st post
  | no => rw [e] at post; exact post
def IniT (C : Addr) (n : Nat) (flds : List (Str × Nat)) (t : List V → VK → Hp → Prop) : Prop :=
  ∀ (a : Addr) (ws : List V) (xs : List (Str × V)) (H : Hp) (Q : VK), ws.length = n → fldV flds ws = some xs → H a = some (exo a C none) →
    (∀ d H2, H d = none → d ≠ a → H2 a = some (exo a C (some d)) → H2 d = some (exd d xs) → (∀ b, b ≠ a → b ≠ d → H2 b = H b) → Q .non H2) → t (.ref a :: ws) Q H
def sRaise (c n : Nat) (flds : List (Str × Nat)) (fa : VEnv → Rs (List RV)) : VEnv → Out := fun env => (fa env).out env fun rs => (rsO ((allD rs).bind (fldD flds))).out env fun fs => if rs.length = n ∧ n ≤ 900 then .ex c fs env else .no
section
variable {ca : CA} {W : WX} {X : Cx} {e : Expr} {es : List Expr} {fa : VEnv → Rs (List RV)} {pos p p1 : Pos}
theorem vs_raise {c n k : Nat} {flds : List (Str × Nat)} {x : Str} {fI : Addr} {fd : FuncData} {N ps : List Str} {t : TS} (T : OexC X.K (ca c)) (iC : PySem.W.findIn X.K (.ref (ca c)) "__init__" = some (some (.ref fI))) (tI : PySem.W.typeIn X.K (.ref fI) = some (.type "function"))
    (F1 : FnOk X.prog X.w X.K X.mg X.base (L2.CX X.prog X.w) k fI fd ps (spI (ca c) N ps t)) (hn : ps.length = n + 1) (ht : IniT (ca c) n flds (fun vs Q H => t { nx := fun _ H' => Q .non H', rt := Q } (L2.start N vs) H)) (hr : Room (k + 1) X.A) (hb : Binds X.K fd ps [])
    (tk : Takes X W) (hc : X.calm = true) (hg : Gl X x) (hm : X.mg x = some (.ref (ca c))) (ha : VA ca W X (e :: es) fa)
    (hdb : (x == ("__debug__" : Str)) = false := by decide) (he : starEach (e :: es) X.env = (false, eval e X.env) :: starEach es X.env := by rfl) (hpl : (backTo p (starEach es X.env)).any (·.1) = false := by rfl) :
    VS ca W X (.Raise (some (.Call (.Name x p1) (e :: es) [] p)) none pos) (sRaise c n flds fa) := by
  obtain ⟨ta, pa, sa⟩ := ha
  refine ⟨_, ps_raise hc tk (pmk_oex (ds := []) (dvs := []) T iC tI F1 hr hb .nil (passes_call tk fun _ _ _ _ z => z.elim) hg hm pa hdb he hpl), fun B F env σ H D st q => ?_⟩
  show ta σ H fun vs H1 => vs.length ≤ 1000 ∧ ∀ a, H1 a = none → spI (ca c) N ps t (.ref a :: (vs ++ [])) (upd H1 a (exo a (ca c) none))
    (fun v H2 => v = .non ∧ ∃ (d : Addr) (fs : List (Str × V)), H2 a = some (exo a (ca c) (some d)) ∧ H2 d = some (exd d fs) ∧ H1 d = none ∧ W (.ref (ca c)) (some d) σ (upd (del H2 a) d (.xd fs))) (fun _ _ _ => False)
  refine outA sa st q fun rs F1 H1 vs q1 g1 pr => ?_
  cases e1 : allD rs with
  | none => rw [e1] at q1; exact q1.elim
  | some ds =>
    rw [e1] at q1
    cases e2 : fldD flds ds with
    | none => simp only [Option.bind_some, e2, rsO_none, Rs.out_no] at q1; exact q1.elim
    | some fs =>
      simp only [Option.bind_some, e2, rsO_some, Rs.out_ok] at q1
      split at q1
      · rename_i hln
        obtain ⟨F2, g2, s2, q2⟩ := frzs g1 (Fz.ofs pr e1)
        obtain ⟨xs, hx, kd⟩ := fld_kd q2 e2
        have hvl : vs.length = n := by rw [Paired.length pr]; exact hln.1
        refine ⟨by omega, fun a na => ⟨by rw [List.append_nil]; simp [hvl, hn], a, vs ++ [], rfl, upd_same, ?_⟩⟩
        rw [List.append_nil]
        refine ht a vs xs (upd H1 a (exo a (ca c) none)) (fun v H2 => v = .non ∧ ∃ (d : Addr) (fs : List (Str × V)), H2 a = some (exo a (ca c) (some d)) ∧ H2 d = some (exd d fs) ∧ H1 d = none ∧ W (.ref (ca c)) (some d) σ (upd (del H2 a) d (.xd fs))) hvl hx upd_same (fun d H2 nd nda ea ed rest => ⟨rfl, d, xs, ea, ed, ?_, ?_⟩)
        · rw [upd_ne nda] at nd; exact nd
        · have nd1 : H1 d = none := by rw [upd_ne nda] at nd; exact nd
          have eH : upd (del H2 a) d (.xd xs) = upd H1 d (.xd xs) := by
            funext b
            by_cases hbd : b = d
            · rw [hbd, upd_same, upd_same]
            · rw [upd_ne hbd, upd_ne hbd]
              by_cases hba : b = a
              · rw [hba, del_same, na]
              · rw [del_ne hba, rest b hba hbd, upd_ne hba]
          rw [eH]
          have g3 := Grow.newO g2.cfg (.xd xs) nd1 (fun _ z => by cases z)
          exact q1 F2 σ _ (.ref (ca c)) (some d) s2 (st.grow (g2.trans g3)) ⟨rfl, d, xs, rfl, upd_same, kd⟩
      · exact q1.elim
end
def Out.clr (i : Nat) : Out → Out
  | .nx env => .nx (env.set i none)
  | .bk env => .bk (env.set i none)
  | .ct env => .ct (env.set i none)
  | .rt r => .rt r
  | .rm o d => .rm o d
  | .rp x fs d => .rp x fs d
  | _ => .no
open Classical in
noncomputable def oneOut (f : Addr → Addr → Out) : Out := if h : ∃ o, ∀ a dd, f a dd = o then Classical.choose h else .no
theorem oneOut_eq {f : Addr → Addr → Out} {o : Out} (h : ∀ a dd, f a dd = o) : oneOut f = o := by
  unfold oneOut
  rw [dif_pos ⟨o, h⟩]
  have z := Classical.choose_spec (⟨o, h⟩ : ∃ o, ∀ a dd, f a dd = o)
  exact (z 0 0).symm.trans (h 0 0)
theorem oneOut_at {f : Addr → Addr → Out} (h : oneOut f ≠ .no) (a dd : Addr) : f a dd = oneOut f := by
  unfold oneOut at h ⊢
  split at h
  · rename_i z
    rw [dif_pos z]
    exact Classical.choose_spec z a dd
  · exact absurd rfl h
noncomputable def sTry (mt : Nat → Option Bool) (i : Nat) (body : VEnv → Out) (suite : Addr → Addr → Nat → VEnv → Out) : VEnv → Out := fun env => match body env with
  | .ex c fs env' => (match mt c with
    | some true => if i < env'.length then oneOut fun a dd => (suite a dd c (env'.set i (some (.xo a dd c fs)))).clr i else .no
    | some false => .ex c fs env'
    | none => .no)
  | o => o
def tUS (K : PySem.W.Frag) (ca : CA) (W : WX) (f : VEnv → Out) : TS := fun D σ H => ∃ B F env, StOk K ca B F env σ H ∧ PostS K ca W B F D (f env)
theorem VSs.pss {ca : CA} {W : WX} {X : Cx} {st : List Stmt} {f : VEnv → Out} (h : VSs ca W X st f) : PSs X st (tUS X.K ca W f) := by
  obtain ⟨t, p, s⟩ := h
  exact ⟨fun pins sh σ H D I q => by
    obtain ⟨B, F, env, so, post⟩ := q
    exact p.run pins sh σ H D I (s B F env σ H D so post)⟩
def wNo : WX := fun _ _ _ _ => False
section
variable {ca : CA} {Wout : WX} {X : Cx} {x n : Str} {C : Value} {i : Nat} {body suite : List Stmt} {b₀ : Stmt} {np pos pos' : Pos}
theorem vs_try {mt : Nat → Option Bool} {fb : VEnv → Out} {fs : Addr → Addr → Nat → VEnv → Out} (hs : X.stack = X.env :: X.outer) (hf : X.env.frame = some X.env.locals) (hN : X.N.Nodup) (hi : X.N[i]? = some n) (hln : X.env.kindOf n = some .local) (hc : Names X x C) (tk : Takes X Wout)
    (hm : ∀ c b, mt c = some b → PySem.W.exmOne X.K (.ref (ca c)) C = some b)
    (hb : ∀ (W : WX) (pn : List (Addr × Obj)) (xe : Value → Shared → Prop), Takes (X.tr pn xe) W → PassesOwn (model X.prog X.w) X.A X.env xe → VSs ca W (X.tr pn xe) body fb)
    (hsu : ∀ (a dd : Addr) (c : Nat) (oe : Obj) (pn : List (Addr × Obj)), Zc (.ref (ca c)) (some dd) oe → (∃ vs, oe.data = .fields vs) → VSs ca wNo (X.suite a ((a, oe) :: pn)) (b₀ :: suite) (fs a dd c)) :
    VS ca Wout X (.Try body [.ExceptHandler (some (.Name x np)) (some n) (b₀ :: suite) pos'] [] [] pos) (sTry mt i fb fs) := by
  refine ⟨_, ps_try_as (tb := fun W => tUS X.K ca W fb) (ts := fun a cls d D σ H => ∃ c dd, cls = .ref (ca c) ∧ d = some dd ∧ tUS X.K ca wNo (fs a dd c) D σ H) hs hf hN hi hln hc tk (fun W pn xe t p => (hb W pn xe t p).pss) (fun a oe cls d pn hz hd => ⟨fun pins s σ H D I q => ?_⟩), fun B F env σ H D st q => ?_⟩
  · obtain ⟨c, dd, rfl, rfl, q⟩ := q
    exact (hsu a dd c oe pn hz hd).pss.run pins s σ H D I q
  · refine ⟨B, F, env, st, ?_⟩
    unfold sTry at q
    cases e : fb env with
    | nx env' => rw [e] at q; exact q
    | bk env' => rw [e] at q; exact q
    | ct env' => rw [e] at q; exact q
    | rt r => rw [e] at q; exact q
    | rm o d => rw [e] at q; exact q
    | rp x fs d => rw [e] at q; exact q
    | no => rw [e] at q; exact q
    | ex c fl env' =>
      rw [e] at q
      dsimp only at q
      intro F1 σ1 H1 cls dx s1 st1 xo
      obtain ⟨rfl, dd, xs, rfl, hdd, kd⟩ := xo
      cases em : mt c with
      | none => rw [em] at q; exact q.elim
      | some b =>
        rw [em] at q
        refine ⟨b, hm c b em, fun hb1 a na => ?_, fun hb1 => ?_⟩
        · subst hb1
          dsimp only at q
          split at q
          · rename_i hlt
            refine ⟨c, dd, rfl, rfl, B, F1, _, st1.put0 hlt (r := .xo a dd c fl) ⟨rfl, xs, hdd, kd⟩ rfl rfl, ?_⟩
            have q1 : PostS X.K ca Wout B F1 D ((fs a dd c (env'.set i (some (.xo a dd c fl)))).clr i) := by
              have hno : oneOut (fun a dd => (fs a dd c (env'.set i (some (.xo a dd c fl)))).clr i) ≠ .no := fun z => by rw [z] at q; exact q
              have := oneOut_at hno a dd
              rw [this]
              exact PostS.mono s1 q
            generalize fs a dd c (env'.set i (some (.xo a dd c fl))) = o at q1 ⊢
            cases o with
            | nx e2 => exact fun F2 σ2 H2 s2 st2 => q1 F2 _ H2 s2 (st2.drop i)
            | bk e2 => exact fun F2 σ2 H2 s2 st2 => q1 F2 _ H2 s2 (st2.drop i)
            | ct e2 => exact fun F2 σ2 H2 s2 st2 => q1 F2 _ H2 s2 (st2.drop i)
            | rt r => exact q1
            | rm o d => exact q1
            | rp x fs d => exact q1
            | ex c2 f2 e2 => exact q1.elim
            | no => exact q1.elim
          · exact q.elim
        · subst hb1
          exact q F1 σ1 H1 _ _ s1 st1 ⟨rfl, dd, xs, rfl, hdd, kd⟩
end
section
variable {ca : CA} {W : WX} {X : Cx}
def cXf (a dd c : Nat) (cs : Nat → Bool) (i : Nat) (f : Str) : VEnv → Rs RV := fun env => match env[i]? with
  | some (some (.xo a' dd' c' fs)) => if a' = a ∧ dd' = dd ∧ c' = c ∧ cs c = true then (rsO (fs.lookup f)).bind fun d => .ok (.d d) else .no
  | _ => .no
theorem kd_lookup {K : PySem.W.Frag} {F : Hp} {f : Str} {d : PyData} : ∀ {xs : List (Str × V)} {fs : List (Str × PyData)}, KD K F xs fs → fs.lookup f = some d → ∃ v, xs.lookup f = some v ∧ Dq K F v d
  | _, _, .nil, h => by cases h
  | (k, v) :: xs, (k', d') :: fs, .cons h1 h2, h => by
    obtain ⟨e, q⟩ := h1
    have e' : k = k' := e
    subst e'
    by_cases z : f = k
    · subst z
      simp [List.lookup] at h
      subst h
      exact ⟨v, by simp [List.lookup], q⟩
    · have z' : (f == k) = false := by simpa using z
      simp only [List.lookup, z'] at h ⊢
      exact kd_lookup h2 h
theorem ve_xf {a dd c i : Nat} {cs : Nat → Bool} {oe : Obj} {pn : List (Addr × Obj)} {f x : Str} {p pos : Pos} (T : ∀ c, cs c = true → XfC X.K (ca c) ∧ PySem.W.findIn X.K (.ref (ca c)) f = some none) (hz : Zc (.ref (ca c)) (some dd) oe) (hf : ∃ vs, oe.data = .fields vs)
    (hN : X.N[i]? = some x) (hv : Vis X.env.scope x) (hd : (x == ("__debug__" : Str)) = false := by decide) (hcd : (x == ("__classdict__" : Str)) = false := by decide) (hb : ∀ env, attributeBase (.Name x p) f env (eval (.Name x p) env) = eval (.Name x p) env := by intro _; rfl) :
    VE ca W (X.suite a ((a, oe) :: pn)) (.Attribute (.Name x p) f pos) (cXf a dd c cs i f) := by
  by_cases hc : cs c = true
  · obtain ⟨T1, T2⟩ := T c hc
    refine ⟨_, pe_xf T1 T2 hz hf (pe_var (X := X.suite a ((a, oe) :: pn)) hN hv hd hcd) (hb _), fun B F env σ H Q st q => ?_⟩
    unfold cXf at q
    split at q
    · rename_i a' dd' c' fs e
      obtain ⟨v, ev, h⟩ := st.sl i _ e
      obtain ⟨rfl, xs, hdd, kd⟩ := h
      split at q
      · rename_i hcond
        obtain ⟨rfl, rfl, rfl, _⟩ := hcond
        cases el : fs.lookup f with
        | none => rw [el] at q; exact q.elim
        | some d =>
          rw [el] at q
          obtain ⟨u, hu, dq⟩ := kd_lookup kd el
          exact ⟨_, ev, rfl, rfl, dd', xs, u, rfl, hdd, hu, q F H u (Grow.refl st.cfg) dq⟩
      · exact q.elim
    · exact q.elim
  · refine ⟨fun _ _ _ => False, ⟨fun _ _ _ _ _ _ h => h.elim⟩, fun B F env σ H Q st q => ?_⟩
    unfold cXf at q
    split at q
    · rw [if_neg (fun z => hc z.2.2.2)] at q
      exact q.elim
    · exact q.elim
end
end VL
namespace VL
open PySem PySem.Spec PyProof.Rows L2
theorem start_at {N : List Str} {vs : List V} {i : Nat} {v : V} (h : vs[i]? = some v) : (L2.start N vs)[i]? = some (some v) := by
  unfold L2.start
  have hi : i < vs.length := (List.getElem?_eq_some_iff.mp h).1
  rw [List.getElem?_append_left (by simpa using hi), List.getElem?_map, h]
  rfl
theorem te_var {N : List Str} {vs : List V} {k : Nat} {H : Hp} (h : k < vs.length) (Q : VK) (hQ : ∀ v, Q v H) : tVar k (L2.start N vs) H Q :=
  ⟨vs[k], start_at (by rw [List.getElem?_eq_getElem h]), hQ _⟩
def clsBody (s : Stmt) : List Stmt := match s with
  | .ClassDef _ _ _ b _ _ _ _ _ _ _ => b
  | _ => []
theorem exm_mk {K : PySem.W.Frag} {C : Addr} {cls : Value} {b : Bool} (h1 : PySem.W.subIn K (.ref C) (.type "BaseException") = some true) (hdct : PySem.W.hasDictIn K C = true) (ht : PySem.W.typeIn K (.ref C) = some (.type "type")) (h4 : PySem.W.subIn K cls (.ref C) = some b) : PySem.W.exmOne K cls (.ref C) = some b := by
  obtain ⟨cd, hc, _⟩ := PySem.W.any_some hdct
  have e1 : (PySem.W.subIn K (.ref C) (.type "BaseException") == some true) = true := by rw [h1] <;> rfl
  have e2 : ((PySem.W.clsIn K C).isSome && PySem.W.typeIn K (.ref C) == some (.type "type")) = true := by rw [hc, ht] <;> rfl
  show (if (PySem.W.subIn K (.ref C) (.type "BaseException") == some true) = true then (if ((PySem.W.clsIn K C).isSome && PySem.W.typeIn K (.ref C) == some (.type "type")) = true then PySem.W.subIn K cls (.ref C) else none) else none) = some b
  rw [if_pos e1, if_pos e2]
  exact h4
section
variable {K : PySem.W.Frag} {C : Addr} {N : List Str} {f1 f2 : Str} {i j n : Nat}
theorem ini2 (T : OexC K C) (n1 : PySem.W.findIn K (.ref C) f1 = some none) (n2 : PySem.W.findIn K (.ref C) f2 = some none) : IniT C n [(f2, j), (f1, i)] (fun vs Q H => (tSeq (tOst K f1 (tVar 0) (tVar (i + 1))) (tOst K f2 (tVar 0) (tVar (j + 1)))) { nx := fun _ H' => Q .non H', rt := Q } (L2.start N vs) H) := by
  intro a ws xs H Q hl hx ha h
  cases e1 : ws[i]? with
  | none => unfold fldV at hx; cases e2 : ws[j]? <;> simp [e1, e2] at hx
  | some v1 =>
    cases e2 : ws[j]? with
    | none => unfold fldV at hx; simp [e1, e2] at hx
    | some v2 =>
      have ex : xs = [(f2, v2), (f1, v1)] := by unfold fldV at hx; simp [e1, e2] at hx; exact hx.symm
      subst ex
      refine ⟨v1, start_at (by simpa using e1), .ref a, start_at rfl, a, C, rfl, T, n1, .inl ⟨ha, fun dx nd ne => ?_⟩⟩
      refine ⟨v2, start_at (by simpa using e2), .ref a, start_at rfl, a, C, rfl, T, n2, .inr ⟨dx, [(f1, v1)], upd_same, by rw [upd_ne ne, upd_same], by simp, ?_⟩⟩
      refine h dx _ nd ne (by rw [upd_ne (Ne.symm ne), upd_same]) upd_same fun b h1 h2 => ?_
      rw [upd_ne h2, upd_ne h1, upd_ne h2]
end
theorem e_raise {c n : Nat} {flds : List (Str × Nat)} {fa : VEnv → Rs (List RV)} {env : VEnv} : sRaise c n flds fa env = (fa env).out env fun rs => (rsO ((allD rs).bind (fldD flds))).out env fun fs => if rs.length = n ∧ n ≤ 900 then .ex c fs env else .no := rfl
theorem e_try_nx {mt : Nat → Option Bool} {i : Nat} {fb : VEnv → Out} {fs : Addr → Addr → Nat → VEnv → Out} {env : VEnv} (h : ∀ c fl e, fb env ≠ .ex c fl e) : sTry mt i fb fs env = fb env := by
  unfold sTry
  cases e : fb env with
  | ex c fl e' => exact absurd e (h c fl e')
  | _ => rfl
theorem e_try_ok {mt : Nat → Option Bool} {i : Nat} {fb : VEnv → Out} {fs : Addr → Addr → Nat → VEnv → Out} {env : VEnv} {o : Out} (h : fb env = o) (hn : ∀ c fl e, o ≠ .ex c fl e) : sTry mt i fb fs env = o := by
  rw [e_try_nx (fun c fl e => by rw [h]; exact hn c fl e), h]
theorem e_try_ex {mt : Nat → Option Bool} {i : Nat} {fb : VEnv → Out} {fs : Addr → Addr → Nat → VEnv → Out} {env env' : VEnv} {c : Nat} {fl : List (Str × PyData)} {o : Out} (h : fb env = .ex c fl env') (hm : mt c = some true) (hl : i < env'.length)
    (hs : ∀ a dd, (fs a dd c (env'.set i (some (.xo a dd c fl)))).clr i = o) : sTry mt i fb fs env = o := by
  unfold sTry
  rw [h]
  dsimp only
  rw [hm]
  dsimp only
  rw [if_pos hl]
  exact oneOut_eq hs
theorem e_clr3 (i env) : (Out.ct env).clr i = .ct (env.set i none) := rfl
theorem e_xf {a dd c i : Nat} {cs : Nat → Bool} {f : Str} {env : VEnv} : cXf a dd c cs i f env = match env[i]? with
  | some (some (.xo a' dd' c' fs)) => if a' = a ∧ dd' = dd ∧ c' = c ∧ cs c = true then (rsO (fs.lookup f)).bind fun d => .ok (.d d) else .no
  | _ => .no := rfl
theorem oex_mk {K : PySem.W.Frag} {C : Addr} {nm q : Str} {N : Addr} {bs bm : List Value} {sn : List Str} {sub : List Value} {ab : Bool} {col : Option Bool} {dd : Option Addr} {k0 k1 k2 k3 k5 : Option Value} (l : K.lookup C = some (excClassObj nm q C N bs bm true sn sub ab col dd k0 k1 k2 k3 k5 "ValueError.__new__"))
    (hb : PySem.HandSPX.refsVE bm = true) (sa : PySem.W.findIn K (.ref C) "__setattr__" = some (some (.builtin "object.__setattr__"))) (exC : PySem.W.subIn K (.ref C) (.type "BaseException") = some true) (tyC : PySem.W.typeIn K (.ref C) = some (.type "type")) (kC : PySem.W.keepIn K (.ref C) = true) : OexC K C :=
  ⟨⟨nm, q, N, bs, bm, sn, sub, ab, col, dd, k0, k1, k2, k3, k5, l, hb⟩, sa, exC, tyC, kC⟩
end VL
namespace VL
open PySem PySem.Spec PyProof.Rows L2
structure IsE (K : PySem.W.Frag) (C : Addr) : Prop where
  hga : PySem.W.findIn K (.ref C) "__getattribute__" = some (some (.builtin "BaseException.__getattribute__"))
  hgt : PySem.W.findIn K (.ref C) "__getattr__" = some none
  hs : PySem.W.subIn K (.ref C) (.type "BaseException") = some true
  hd : PySem.W.hasDictIn K C = true
  ha : PySem.W.findIn K (.ref C) "__class__" = some (some (.builtin "object.__class__"))
  hn : PySem.W.specialIn K (.builtin "object.__class__") "__get__" = some (some (.builtin "getset_descriptor.__get__"))
  ht : PySem.W.takesIn K (.builtin "object.__class__") = some true
  hm : PySem.W.mroIn K C (.type "object") = some true
def rIsX (K : PySem.W.Frag) (C a dd : Addr) : List V → Hp → VK → Prop := fun xs H Q => ∃ (c : V) (cv : Value) (b : Bool) (fs : List (Str × V)), xs = [.ref a, c] ∧ (∀ u, RelV c u → u = cv) ∧ PySem.W.kitOne K (.ref C) cv = some b ∧ H dd = some (.xd fs) ∧ Q (.bl b) H
theorem call_isX {X : Cx} {a C dd : Addr} {oe : Obj} {pn : List (Addr × Obj)} (T : IsE X.K C) (hz : Zc (.ref C) (some dd) oe) (hf : ∃ vs, oe.data = .fields vs) : CallR (X.suite a ((a, oe) :: pn)) (.builtin "isinstance") (rIsX X.K C a dd) := by
  intro pins s σ H xs us Q I r h
  obtain ⟨c, cv, b, fs, rfl, hcv, e, hdd, q⟩ := h
  cases r with
  | cons rx rr =>
    cases rr with
    | cons rt rr =>
      cases rr
      cases rx
      have ec := hcv _ rt
      subst ec
      obtain ⟨hget, _⟩ := I.pin (a, oe) (List.mem_append.mpr (.inl List.mem_cons_self))
      obtain ⟨vs, hv⟩ := hf
      have hx : ObjOk X.prog X.w H s.heap dd (.xd fs) := I.hok dd _ hdd
      obtain ⟨mA, hns, hr⟩ := hx
      obtain ⟨od, ho, hl⟩ := lookIn_ns hns
      have J : PySem.W.InstAt s.heap a oe C (some od) := ⟨hget, hz.1, by unfold PySem.W.notCls; rw [hv] <;> rfl, by rw [hz.2]; exact ho⟩
      exact PySem.W.kia_one (PySem.W.kitx_exc (by obtain ⟨cd, hc, _⟩ := PySem.W.any_some T.hd; rw [hc]; rfl) T.hga T.hgt T.hs T.ha T.hn T.ht T.hm) I.kIn J e (fun z => nomatch z) fun tk => ⟨.bl b, H, I.kept (t' := tk) fun _ _ z => z, rfl, q⟩
def cIsE (a dd c : Nat) (tb : Nat → Option Bool) (i : Nat) : VEnv → Rs RV := fun env => match env[i]? with
  | some (some (.xo a' dd' c' fs)) => if a' = a ∧ dd' = dd ∧ c' = c then (rsO (tb c)).bind fun b => .ok (.d (.bool b)) else .no
  | _ => .no
theorem e_isE {a dd c i : Nat} {tb : Nat → Option Bool} {env : VEnv} : cIsE a dd c tb i env = match env[i]? with
  | some (some (.xo a' dd' c' fs)) => if a' = a ∧ dd' = dd ∧ c' = c then (rsO (tb c)).bind fun b => .ok (.d (.bool b)) else .no
  | _ => .no := rfl
section
variable {ca : CA} {W : WX} {X : Cx}
theorem ve_isX {a dd c i : Nat} {tb : Nat → Option Bool} {oe : Obj} {pn : List (Addr × Obj)} {x x2 : Str} {p p1 p2 pos : Pos} {cv : V} {cu : Value} (T : ∀ c b, tb c = some b → IsE X.K (ca c) ∧ PySem.W.kitOne X.K (.ref (ca c)) cu = some b) (hz : Zc (.ref (ca c)) (some dd) oe) (hf : ∃ vs, oe.data = .fields vs)
    (hg : Gl X "isinstance") (hm : X.mg "isinstance" = none) (pc : PE (X.suite a ((a, oe) :: pn)) (.Name x2 p2) (tC cv)) (rc : ∀ u, RelV cv u → u = cu)
    (hN : X.N[i]? = some x) (hv : Vis X.env.scope x) (hd : (x == ("__debug__" : Str)) = false := by decide) (hcd : (x == ("__classdict__" : Str)) = false := by decide)
    (hs : starEach [.Name x p1, .Name x2 p2] X.env = (false, eval (.Name x p1) X.env) :: starEach [.Name x2 p2] X.env := by rfl) (hs2 : starEach [.Name x2 p2] X.env = (false, eval (.Name x2 p2) X.env) :: starEach [] X.env := by rfl) (hpl : (backTo pos (starEach [.Name x2 p2] X.env)).any (·.1) = false := by rfl) :
    VE ca W (X.suite a ((a, oe) :: pn)) (.Call (.Name "isinstance" p) [.Name x p1, .Name x2 p2] [] pos) (cIsE a dd c tb i) := by
  cases et : tb c with
  | none =>
    refine ⟨fun _ _ _ => False, ⟨fun _ _ _ _ _ _ h => h.elim⟩, fun B F env σ H Q st q => ?_⟩
    unfold cIsE at q
    rw [et] at q
    split at q
    · split at q <;> exact q.elim
    · exact q.elim
  | some b =>
    obtain ⟨T1, T2⟩ := T c b et
    refine ⟨_, pe_callB (X := X.suite a ((a, oe) :: pn)) (call_isX T1 hz hf) hg hm (by decide +kernel) (pa_cons (pe_var (X := X.suite a ((a, oe) :: pn)) hN hv hd hcd) (pa_cons pc pa_nil hs2) hs) (by decide) (by decide) hs hpl, fun B F env σ H Q st q => ?_⟩
    unfold cIsE at q
    rw [et] at q
    split at q
    · rename_i a' dd' c' fs e
      obtain ⟨v, ev, h⟩ := st.sl i _ e
      obtain ⟨rfl, xs, hdd, kd⟩ := h
      split at q
      · rename_i hcond
        obtain ⟨rfl, rfl, rfl⟩ := hcond
        exact ⟨_, ev, cv, cu, b, xs, rfl, rc, T2, hdd, q F H _ (Grow.refl st.cfg) (.bl b)⟩
      · exact q.elim
    · exact q.elim
theorem ve_isE {a dd c i : Nat} {tb : Nat → Option Bool} {oe : Obj} {pn : List (Addr × Obj)} {x x2 : Str} {p p1 p2 pos : Pos} {D : Addr} (T : ∀ c b, tb c = some b → IsE X.K (ca c) ∧ PySem.W.kitOne X.K (.ref (ca c)) (.ref D) = some b) (hz : Zc (.ref (ca c)) (some dd) oe) (hf : ∃ vs, oe.data = .fields vs)
    (hg : Gl X "isinstance") (hm : X.mg "isinstance" = none) (hg2 : Gl X x2) (hm2 : X.mg x2 = some (.ref D)) (hN : X.N[i]? = some x) (hv : Vis X.env.scope x) (hd : (x == ("__debug__" : Str)) = false := by decide) (hcd : (x == ("__classdict__" : Str)) = false := by decide) (hd2 : (x2 == ("__debug__" : Str)) = false := by decide)
    (hs : starEach [.Name x p1, .Name x2 p2] X.env = (false, eval (.Name x p1) X.env) :: starEach [.Name x2 p2] X.env := by rfl) (hs2 : starEach [.Name x2 p2] X.env = (false, eval (.Name x2 p2) X.env) :: starEach [] X.env := by rfl) (hpl : (backTo pos (starEach [.Name x2 p2] X.env)).any (·.1) = false := by rfl) :
    VE ca W (X.suite a ((a, oe) :: pn)) (.Call (.Name "isinstance" p) [.Name x p1, .Name x2 p2] [] pos) (cIsE a dd c tb i) :=
  ve_isX T hz hf hg hm (pe_glob (X := X.suite a ((a, oe) :: pn)) (v := .ref D) hg2 hm2 rfl hd2) (fun _ h => h) hN hv hd hcd hs hs2 hpl
theorem ve_isV {a dd c i : Nat} {tb : Nat → Option Bool} {oe : Obj} {pn : List (Addr × Obj)} {x x2 : Str} {p p1 p2 pos : Pos} {D : String} (T : ∀ c b, tb c = some b → IsE X.K (ca c) ∧ PySem.W.kitOne X.K (.ref (ca c)) (.type D) = some b) (hz : Zc (.ref (ca c)) (some dd) oe) (hf : ∃ vs, oe.data = .fields vs)
    (hg : Gl X "isinstance") (hm : X.mg "isinstance" = none) (hg2 : Gl X x2) (hm2 : X.mg x2 = none) (hv2 : bootBuiltins x2 = some (.type D)) (hN : X.N[i]? = some x) (hv : Vis X.env.scope x) (hn2 : x2 ≠ "__name__" := by decide) (hd : (x == ("__debug__" : Str)) = false := by decide) (hcd : (x == ("__classdict__" : Str)) = false := by decide) (hd2 : (x2 == ("__debug__" : Str)) = false := by decide)
    (hs : starEach [.Name x p1, .Name x2 p2] X.env = (false, eval (.Name x p1) X.env) :: starEach [.Name x2 p2] X.env := by rfl) (hs2 : starEach [.Name x2 p2] X.env = (false, eval (.Name x2 p2) X.env) :: starEach [] X.env := by rfl) (hpl : (backTo pos (starEach [.Name x2 p2] X.env)).any (·.1) = false := by rfl) :
    VE ca W (X.suite a ((a, oe) :: pn)) (.Call (.Name "isinstance" p) [.Name x p1, .Name x2 p2] [] pos) (cIsE a dd c tb i) :=
  ve_isX T hz hf hg hm (pe_bltn (X := X.suite a ((a, oe) :: pn)) (v := .ty D) hg2 hm2 hv2 rfl hn2 hd2) (fun _ h => h) hN hv hd hcd hs hs2 hpl
end
theorem kit_mk {K : PySem.W.Frag} {C D : Addr} {b : Bool} (hd : PySem.W.hasDictIn K D = true) (ty : PySem.W.typeIn K (.ref D) = some (.type "type")) (ss : PySem.W.subIn K (.ref D) (.ref D) = some true) (sb : PySem.W.subIn K (.ref C) (.ref D) = some b) : PySem.W.kitOne K (.ref C) (.ref D) = some b := by
  unfold PySem.W.kitOne
  split
  · rename_i h
    have e : C = D := Value.ref.inj (beq_iff_eq.mp h)
    subst e
    exact ss.symm.trans sb
  · obtain ⟨cd, hc, _⟩ := PySem.W.any_some hd
    have e2 : ((PySem.W.clsIn K D).isSome && PySem.W.typeIn K (.ref D) == some (.type "type")) = true := by rw [hc, ty] <;> rfl
    show (if ((PySem.W.clsIn K D).isSome && PySem.W.typeIn K (.ref D) == some (.type "type")) = true then PySem.W.subIn K (.ref C) (.ref D) else none) = some b
    rw [if_pos e2]
    exact sb
theorem kit_mkV {K : PySem.W.Frag} {C : Addr} {b : Bool} (sb : PySem.W.subIn K (.ref C) (.type "ValueError") = some b) : PySem.W.kitOne K (.ref C) (.type "ValueError") = some b := by
  unfold PySem.W.kitOne
  rw [if_neg (by intro h; cases (beq_iff_eq.mp h))]
  show (if PySem.W.kitMeta "ValueError" = true then PySem.W.subIn K (.ref C) (.type "ValueError") else none) = some b
  rw [if_pos (by decide +kernel)]
  exact sb
end VL
namespace VL
open PySem PySem.Spec PyProof.Rows L2
end VL
namespace VL
open PySem PySem.Spec PyProof.Rows L2
end VL
namespace VL
open PySem PySem.Spec PyProof.Rows L2 HT
end VL
namespace VL
open PySem PySem.Spec PyProof.Rows L2
end VL
namespace VL
open PySem PySem.Spec PyProof.Rows L2
end VL
namespace VL
open PySem PySem.Spec PyProof.Rows L2
mutual
def noL : PyData → Bool
  | .list _ => false
  | .dict _ => false
  | .tuple ds => noLs ds
  | _ => true
def noLs : List PyData → Bool
  | [] => true
  | d :: ds => noL d && noLs ds
end
def RV.plain : RV → Bool
  | .d x => noL x
  | _ => false
end VL
namespace VL
open PySem PySem.Spec PyProof.Rows L2
end VL
namespace VL
open PySem PySem.Spec PyProof.Rows L2
end VL
namespace VL
open PySem PySem.Spec PyProof.Rows L2
end VL
namespace VL
open PySem PySem.Spec PyProof.Rows L2
end VL
namespace VL
open PySem PySem.Spec PyProof.Rows L2
end VL
namespace VL
open PySem PySem.Spec PyProof.Rows L2
end VL
namespace VL
open PySem PySem.Spec PyProof.Rows L2
def putFV (f : Str) (v : FV) : List (Str × FV) → List (Str × FV)
  | [] => [(f, v)]
  | (g, x) :: r => if g = f then (g, v) :: r else (g, x) :: putFV f v r
theorem cls_one {K : PySem.W.Frag} {x : Str} {C C' : Addr} (h : ClsNm K x C) (h' : ClsNm K x C') : C = C' := by
  unfold ClsNm at h h'
  rw [h] at h'
  injection h' with h'
  injection h' with h'
  injection h'
theorem FOk.look {K : PySem.W.Frag} {H0 F H : Hp} {f : Str} {fv : FV} : ∀ {vs : List (Str × V)} {fs : List (Str × FV)}, FOk K H0 F H vs fs → fs.lookup f = some fv → ∃ v, vs.lookup f = some v ∧ FVok K H0 F H v fv
  | _, _, .nil, h => by cases h
  | (k, v) :: vs, (k', d') :: fs, .cons h1 h2, h => by
    obtain ⟨e, q⟩ := h1
    have e' : k = k' := e
    subst e'
    by_cases z : f = k
    · subst z
      simp [List.lookup] at h
      subst h
      exact ⟨v, by simp [List.lookup], q⟩
    · have z' : (f == k) = false := by simpa using z
      simp only [List.lookup, z'] at h ⊢
      exact FOk.look h2 h
theorem FBk.look {K : PySem.W.Frag} {F H : Hp} {f : Str} {fv : FV} : ∀ {vs : List (Str × V)} {fs : List (Str × FV)}, FBk K F H vs fs → fs.lookup f = some fv → ∃ v, vs.lookup f = some v ∧ FVb K F H v fv
  | _, _, .nil, h => by cases h
  | (k, v) :: vs, (k', d') :: fs, .cons h1 h2, h => by
    obtain ⟨e, q⟩ := h1
    have e' : k = k' := e
    subst e'
    by_cases z : f = k
    · subst z
      simp [List.lookup] at h
      subst h
      exact ⟨v, by simp [List.lookup], q⟩
    · have z' : (f == k) = false := by simpa using z
      simp only [List.lookup, z'] at h ⊢
      exact FBk.look h2 h
theorem FBk.none {K : PySem.W.Frag} {F H : Hp} {f : Str} : ∀ {vs : List (Str × V)} {fs : List (Str × FV)}, FBk K F H vs fs → fs.lookup f = none → vs.lookup f = none
  | _, _, .nil, h => rfl
  | (k, v) :: vs, (k', d') :: fs, .cons h1 h2, h => by
    obtain ⟨e, q⟩ := h1
    have e' : k = k' := e
    subst e'
    by_cases z : f = k
    · subst z
      simp [List.lookup] at h
    · have z' : (f == k) = false := by simpa using z
      simp only [List.lookup, z'] at h ⊢
      exact FBk.none h2 h
theorem FOk.len {K : PySem.W.Frag} {H0 F H : Hp} {vs : List (Str × V)} {fs : List (Str × FV)} (h : FOk K H0 F H vs fs) : vs.length = fs.length := Paired.length h
theorem FOk.put {K : PySem.W.Frag} {H0 F H : Hp} {f : Str} {v : V} {fv : FV} (q : FVok K H0 F H v fv) : ∀ {vs : List (Str × V)} {fs : List (Str × FV)}, FOk K H0 F H vs fs → FOk K H0 F H (putF f v vs) (putFV f fv fs)
  | _, _, .nil => .cons ⟨rfl, q⟩ .nil
  | (k, w) :: vs, (k', d') :: fs, .cons h1 h2 => by
    obtain ⟨e, q1⟩ := h1
    have e' : k = k' := e
    subst e'
    unfold putF putFV
    by_cases z : k = f
    · rw [if_pos z, if_pos z]; exact .cons ⟨rfl, q⟩ h2
    · rw [if_neg z, if_neg z]; exact .cons ⟨rfl, q1⟩ (FOk.put q h2)
theorem lad_put {K : PySem.W.Frag} {H0 F H : Hp} {f : Str} {v : V} {fv : FV} {q : Addr} : ∀ {vs : List (Str × V)} {fs : List (Str × FV)}, FOk K H0 F H vs fs → q ∈ lad (putF f v vs) (putFV f fv fs) → q ∈ lad vs fs ∨ (v = .ref q ∧ ∃ xs, fv = .ol xs)
  | _, _, .nil, h => by
    cases fv with
    | d x => cases v <;> simp [putF, putFV, lad] at h
    | ol xs =>
      cases v with
      | ref a => simp [putF, putFV, lad] at h; exact .inr ⟨by rw [h], xs, rfl⟩
      | _ => simp [putF, putFV, lad] at h
  | (k, w) :: vs, (k', d') :: fs, .cons h1 h2, h => by
    obtain ⟨e, q1⟩ := h1
    have e' : k = k' := e
    subst e'
    unfold putF putFV at h
    by_cases z : k = f
    · rw [if_pos z, if_pos z] at h
      cases fv with
      | d x => exact .inl (by cases v <;> (simp only [lad] at h; cases d' <;> cases w <;> first | exact h | exact List.mem_cons_of_mem _ h))
      | ol xs =>
        cases v with
        | ref a =>
          simp only [lad, List.mem_cons] at h
          rcases h with rfl | h
          · exact .inr ⟨rfl, xs, rfl⟩
          · exact .inl (by cases d' <;> cases w <;> first | exact h | exact List.mem_cons_of_mem _ h)
        | _ => exact .inl (by simp only [lad] at h; cases d' <;> cases w <;> first | exact h | exact List.mem_cons_of_mem _ h)
    · rw [if_neg z, if_neg z] at h
      have up : q ∈ lad (putF f v vs) (putFV f fv fs) → q ∈ lad ((k, w) :: vs) ((k, d') :: fs) ∨ (v = .ref q ∧ ∃ xs, fv = .ol xs) := fun hq => by
        rcases lad_put h2 hq with hq | hq
        · exact .inl (by cases d' <;> cases w <;> first | exact hq | exact List.mem_cons_of_mem _ hq)
        · exact .inr hq
      cases d' with
      | d x => exact up (by cases w <;> exact h)
      | ol xs =>
        cases w with
        | ref a =>
          simp only [lad, List.mem_cons] at h
          rcases h with rfl | h
          · exact .inl (by simp [lad])
          · exact up h
        | _ => exact up h
theorem nodup_put {K : PySem.W.Frag} {H0 F H : Hp} {f : Str} {v : V} {fv : FV} : ∀ {vs : List (Str × V)} {fs : List (Str × FV)}, FOk K H0 F H vs fs → (lad vs fs).Nodup → (∀ q xs, v = .ref q → fv = .ol xs → q ∉ lad vs fs) → (lad (putF f v vs) (putFV f fv fs)).Nodup
  | _, _, .nil, _, _ => by
    cases fv with
    | d x => cases v <;> simp [putF, putFV, lad]
    | ol xs => cases v <;> simp [putF, putFV, lad]
  | (k, w) :: vs, (k', d') :: fs, .cons h1 h2, nd, new => by
    have h12 := h1
    obtain ⟨e, q1⟩ := h1
    have e' : k = k' := e
    subst e'
    have ndt : (lad vs fs).Nodup := by
      cases d' <;> cases w <;> first | exact nd | exact (List.nodup_cons.mp nd).2
    have newt : ∀ q xs, v = .ref q → fv = .ol xs → q ∉ lad vs fs := fun q xs e1 e2 hq => new q xs e1 e2 (by cases d' <;> cases w <;> first | exact hq | exact List.mem_cons_of_mem _ hq)
    unfold putF putFV
    by_cases z : k = f
    · rw [if_pos z, if_pos z]
      cases fv with
      | d x => cases v <;> exact ndt
      | ol xs =>
        cases v with
        | ref a => exact List.nodup_cons.mpr ⟨newt a xs rfl rfl, ndt⟩
        | _ => exact ndt
    · rw [if_neg z, if_neg z]
      have ih := nodup_put (f := f) h2 ndt newt
      cases d' with
      | d x => cases w <;> exact ih
      | ol ys =>
        cases w with
        | ref a =>
          refine List.nodup_cons.mpr ⟨fun ha => ?_, ih⟩
          rcases lad_put h2 ha with hq | ⟨e1, xs, e2⟩
          · exact (List.nodup_cons.mp nd).1 hq
          · exact new a xs e1 e2 (by simp [lad])
        | _ => exact ih
section
variable {K : PySem.W.Frag} {ca : CA} {B : Base} {F H F' H' : Hp} {env : VEnv} {σ : L2.St}
structure Chg (B : Base) (F H F' H' : Hp) (R : Addr → Prop) : Prop where
  gr : Grow B.F B.H F' H'
  ff : Same F F'
  out : ∀ a o, ¬ R a → H a = some o → (∀ ps, o ≠ .tbl ps) → H' a = some o
  fout : ∀ a o, ¬ R a → H a = some o → F a = none → F' a = none
  base : ∀ a, R a → B.H a = none
theorem StOk.chg (st : StOk K ca B F env σ H) {i : Nat} {me : Bool} {x x' : Str} {fs fs' : List (Str × FV)} {p : Addr} (e : env[i]? = some (some (.ob me x fs))) (z : σ[i]? = some (some (.ref p)))
    (g : Chg B F H F' H' (fun a => a = p ∨ a ∈ fla H p fs)) (tb : TabOk ca.T F' H') (ob : ObOk K B.H F' H' p x' fs') (new : ∀ q ∈ fla H' p fs', q ∈ fla H p fs ∨ H q = none) : StOk K ca B F' (env.set i (some (.ob me x' fs'))) σ H' := by
  have hi : i < env.length := (List.getElem?_eq_some_iff.mp e).1
  have ob0 := st.obAt e z
  obtain ⟨C0, dx0, us0, hi0⟩ := ob0.ins
  have nown : ∀ {j : Nat} {r : RV} {a : Addr}, j ≠ i → env[j]? = some (some r) → r.own = true → σ[j]? = some (some (.ref a)) → ¬ (a = p ∨ a ∈ fla H p fs) := fun {j r a} ji ej o sj hR => by
    rcases hR with rfl | hR
    · exact st.dis j i r _ a ji ej e o rfl sj z
    · exact st.rg.o1 i j p a me x fs r e z hR ej o sj
  have nobq : ∀ {j : Nat} {a q : Addr} {me' : Bool} {y : Str} {gs : List (Str × FV)}, j ≠ i → env[j]? = some (some (.ob me' y gs)) → σ[j]? = some (some (.ref a)) → q ∈ fla H a gs → ¬ (q = p ∨ q ∈ fla H p fs) := fun {j a q me' y gs} ji ej sj hq hR => by
    rcases hR with rfl | hR
    · obtain ⟨_, _, ws, hl⟩ := (st.obAt ej sj).at hq
      rw [hi0] at hl; cases hl
    · exact st.rg.o2 j i a p q me' me y x gs fs ji ej sj e z hq hR
  have nbase : ∀ {a : Addr} {o : HO}, B.H a = some o → ¬ (a = p ∨ a ∈ fla H p fs) := fun h hR => by
    have := g.base _ hR
    rw [h] at this; cases this
  have back : ∀ {j : Nat} {r : RV}, (env.set i (some (.ob me x' fs')))[j]? = some (some r) → (j = i ∧ r = .ob me x' fs') ∨ (j ≠ i ∧ env[j]? = some (some r)) := fun {j r} ej => by
    by_cases h : i = j
    · subst h
      rw [List.getElem?_set_self hi] at ej
      cases ej
      exact .inl ⟨rfl, rfl⟩
    · rw [List.getElem?_set_ne h] at ej; exact .inr ⟨Ne.symm h, ej⟩
  have fob : ∀ {j : Nat} {a : Addr} {me' : Bool} {y : Str} {gs : List (Str × FV)}, j ≠ i → env[j]? = some (some (.ob me' y gs)) → σ[j]? = some (some (.ref a)) → fla H' a gs = fla H a gs := fun {j a me' y gs} ji ej sj => by
    obtain ⟨C, dx, vs, hi⟩ := (st.obAt ej sj).ins
    rw [fla_eq gs hi, fla_eq gs (g.out _ _ (nown ji ej rfl sj) hi (fun ps z => by cases z))]
  have fbo : ∀ {j : Nat} {a : Addr} {y : Str} {gs : List (Str × FV)}, env[j]? = some (some (.bo y gs)) → σ[j]? = some (some (.ref a)) → fla H' a gs = fla H a gs := fun {j a y gs} ej sj => by
    obtain ⟨C, dx, vs, hi⟩ := (st.boAt ej sj).ins
    obtain ⟨o, ho⟩ := st.bo j _ a ej rfl sj
    rw [fla_eq gs hi, fla_eq gs (g.out _ _ (nbase ho) hi (fun ps z => by cases z))]
  have newq : ∀ {q : Addr}, q ∈ fla H' p fs' → q ∈ fla H p fs ∨ H q = none := fun hq => new _ hq
  refine ⟨g.gr, by simpa using st.len, fun j r ej => ?_, fun j r a ej o s => ?_, fun j k r r' a jk e1 e2 o1 o2 z1 z2 => ?_,
    ⟨tb, fun a b p1 q me1 y gs r ea za hq eb ob' => ?_, fun a b p1 p2 q me1 me2 y y' gs gs' ab ea za eb zb hq hq' => ?_, fun a p1 q y gs ea za hq => ?_, fun a y gs ea => ?_⟩⟩
  · rcases back ej with ⟨rfl, rfl⟩ | ⟨ji, ej⟩
    · exact ⟨_, z, p, rfl, ob⟩
    · obtain ⟨w, ew, q⟩ := st.sl j r ej
      refine ⟨w, ew, ?_⟩
      have out1 : ∀ {a : Addr} {o : HO}, r.own = true → w = .ref a → H a = some o → (∀ ps, o ≠ .tbl ps) → H' a = some o := fun {a o} ow ev h nt => g.out a o (nown ji ej ow (ev ▸ ew)) h nt
      have fout1 : ∀ {a : Addr} {o : HO}, r.own = true → w = .ref a → H a = some o → F a = none → F' a = none := fun {a o} ow ev h f => g.fout a o (nown ji ej ow (ev ▸ ew)) h f
      have outb : ∀ {a : Addr} {o : HO}, r.isB = true → w = .ref a → H a = some o → (∀ ps, o ≠ .tbl ps) → H' a = some o := fun {a o} ow ev h nt => by
        obtain ⟨ob, hb⟩ := st.bo j r a ej ow (ev ▸ ew)
        exact g.out a o (nbase hb) h nt
      cases r with
      | d y => exact Dq.mono g.ff y w q
      | ol ys => obtain ⟨a, ws, ev, n, f2, h2, q4⟩ := q; exact ⟨a, ws, ev, n, fout1 rfl ev h2 f2, out1 rfl ev h2 (fun _ z => by cases z), DqA.mono g.ff _ _ q4⟩
      | od ys => obtain ⟨a, ws, ev, n, f2, h2, q4⟩ := q; exact ⟨a, ws, ev, n, fout1 rfl ev h2 f2, out1 rfl ev h2 (fun _ z => by cases z), q4.mono g.ff⟩
      | ot ys => obtain ⟨a, ws, ev, n, f2, h2, q4⟩ := q; exact ⟨a, ws, ev, n, fout1 rfl ev h2 f2, out1 rfl ev h2 (fun ps z => by have z : HO.ext _ = HO.tbl ps := z; cases z), q4.mono g.ff⟩
      | bl ys => obtain ⟨a, ws, ev, h2, q4⟩ := q; exact ⟨a, ws, ev, outb rfl ev h2 (fun _ z => by cases z), DqA.mono g.ff _ _ q4⟩
      | bd ys => obtain ⟨a, ws, ev, h2, q4⟩ := q; exact ⟨a, ws, ev, h2.imp (fun h => outb rfl ev h (fun _ z => by cases z)) (fun ⟨o, h⟩ => ⟨o, outb rfl ev h (fun _ z => by cases z)⟩), q4.mono g.ff⟩
      | bt ys => obtain ⟨a, ws, ev, h2, q4⟩ := q; exact ⟨a, ws, ev, outb rfl ev h2 (fun ps z => by have z : HO.ext _ = HO.tbl ps := z; cases z), q4.mono g.ff⟩
      | sc ns => obtain ⟨a, ev, q4⟩ := q; exact ⟨a, ev, g.ff.seq q4⟩
      | t3 y ys kvs => exact t3_mono g.ff q
      | fd kvs => exact fd_mono g.ff q
      | xo a dd c gs =>
        obtain ⟨ev, ws, h2, q4⟩ := q
        refine ⟨ev, ws, g.out dd _ (fun hR => ?_) h2 (fun _ z => by cases z), q4.mono g.ff⟩
        rcases hR with rfl | hR
        · rw [hi0] at h2; cases h2
        · obtain ⟨_, _, us, hl⟩ := ob0.at hR
          rw [hl] at h2; cases h2
      | ob me' y gs =>
        obtain ⟨a, ev, h4⟩ := q
        subst ev
        have h5 := h4
        obtain ⟨C, dx, vs, _, h1, n5, f5, _⟩ := h5
        refine ⟨a, rfl, h4.to g.ff n5 (fout1 rfl rfl h1 f5) ((out1 rfl rfl h1 (fun _ z => by cases z)).trans h1.symm) fun q hq ws nq fq lq => ?_⟩
        have nR := nobq ji ej ew hq
        exact ⟨nq, g.fout q _ nR lq fq, g.out q _ nR lq (fun _ z => by cases z)⟩
      | bo y gs =>
        obtain ⟨a, ev, h4⟩ := q
        subst ev
        obtain ⟨C, dx, vs, h1⟩ := h4.ins
        refine ⟨a, rfl, h4.to g.ff ((outb rfl rfl h1 (fun _ z => by cases z)).trans h1.symm) fun q hq ws lq => ?_⟩
        obtain ⟨o, ho⟩ := st.rg.o3 j a q y gs ej ew hq
        exact g.out q _ (nbase ho) lq (fun _ z => by cases z)
  · rcases back ej with ⟨rfl, rfl⟩ | ⟨ji, ej⟩
    · cases o
    · exact st.bo j r a ej o s
  · rcases back e1 with ⟨rfl, rfl⟩ | ⟨ji, ej⟩
    · rcases back e2 with ⟨rfl, rfl⟩ | ⟨ki, ek⟩
      · exact absurd rfl jk
      · exact st.dis j k _ r' a jk e ek rfl o2 z1 z2
    · rcases back e2 with ⟨rfl, rfl⟩ | ⟨ki, ek⟩
      · exact st.dis j k r _ a jk ej e o1 rfl z1 z2
      · exact st.dis j k r r' a jk ej ek o1 o2 z1 z2
  · rcases back ea with ⟨rfl, h⟩ | ⟨ai, ea⟩
    · cases h
      rw [z] at za
      cases za
      intro zb
      rcases newq hq with hq | hn
      · rcases back eb with ⟨rfl, h⟩ | ⟨bi, eb⟩
        · rw [z] at zb
          cases zb
          obtain ⟨_, _, ws, hl⟩ := ob0.at hq
          rw [hi0] at hl; cases hl
        · exact st.rg.o1 a b p q me x fs r e z hq eb ob' zb
      · rcases back eb with ⟨rfl, h⟩ | ⟨bi, eb⟩
        · rw [z] at zb
          cases zb
          rw [hi0] at hn; cases hn
        · obtain ⟨w, ew, qw⟩ := st.sl b r eb
          rw [zb] at ew
          cases ew
          obtain ⟨_, _, u, hu⟩ := own_some ob' qw
          rw [hn] at hu; cases hu
    · have ea1 : env[a]? = some (some (.ob me1 y gs)) := ea
      rw [fob ai ea1 za] at hq
      rcases back eb with ⟨rfl, h⟩ | ⟨bi, eb⟩
      · exact st.rg.o1 a b p1 q me1 y gs _ ea1 za hq e rfl
      · exact st.rg.o1 a b p1 q me1 y gs r ea1 za hq eb ob'
  · have lo : ∀ {j : Nat} {a q : Addr} {me' : Bool} {y : Str} {gs : List (Str × FV)}, j ≠ i → env[j]? = some (some (.ob me' y gs)) → σ[j]? = some (some (.ref a)) → q ∈ fla H a gs → q ∈ fla H' p fs' → False := fun {j a q me' y gs} ji ej sj hq hq' => by
      rcases newq hq' with h | h
      · exact nobq ji ej sj hq (.inr h)
      · obtain ⟨_, _, ws, hl⟩ := (st.obAt ej sj).at hq
        rw [h] at hl; cases hl
    rcases back ea with ⟨rfl, h⟩ | ⟨ai, ea⟩
    · rcases back eb with ⟨rfl, h'⟩ | ⟨bi, eb⟩
      · exact absurd rfl ab
      · cases h
        rw [z] at za
        cases za
        rw [fob bi eb zb] at hq'
        exact lo bi eb zb hq' hq
    · have ea1 : env[a]? = some (some (.ob me1 y gs)) := ea
      rw [fob ai ea1 za] at hq
      rcases back eb with ⟨rfl, h'⟩ | ⟨bi, eb⟩
      · cases h'
        rw [z] at zb
        cases zb
        exact lo ai ea1 za hq hq'
      · rw [fob bi eb zb] at hq'
        exact st.rg.o2 a b p1 p2 q me1 me2 y y' gs gs' ab ea1 za eb zb hq hq'
  · rcases back ea with ⟨rfl, h⟩ | ⟨ai, ea⟩
    · cases h
    · rw [fbo ea za] at hq
      exact st.rg.o3 a p1 q y gs ea za hq
  · rcases back ea with ⟨rfl, h⟩ | ⟨ai, ea⟩
    · cases h
      exact st.rg.me a x fs e
    · exact st.rg.me a y gs ea
end
end VL
namespace VL
open PySem PySem.Spec PyProof.Rows L2
structure ClsT (K : PySem.W.Frag) (cn : Str) (C : Addr) : Prop where
  nm : ClsNm K cn C
  cl : Cls K C
def obOf : RV → Option (Str × List (Str × FV))
  | .ob _ x fs => some (x, fs)
  | .bo x fs => some (x, fs)
  | _ => none
def fvR : FV → RV
  | .d y => .d y
  | .ol xs => .bl xs
def cFld (cn : Str) (i : Nat) (f : Str) : VEnv → Rs RV := fun env => match env[i]? with
  | some (some r) => (rsO (obOf r)).bind fun o => if o.1 = cn then (rsO (o.2.lookup f)).bind fun fv => .ok (fvR fv) else .no
  | _ => .no
theorem obOf_ok {K : PySem.W.Frag} {H0 F H : Hp} {v : V} {r : RV} {x : Str} {fs : List (Str × FV)} (h : RVok K H0 F H v r) (e : obOf r = some (x, fs)) : ∃ p, v = .ref p ∧ BoOk K F H p x fs := by
  cases r with
  | ob me y gs => cases e; obtain ⟨p, ev, h⟩ := h; exact ⟨p, ev, h.bo⟩
  | bo y gs => cases e; exact h
  | _ => cases e
theorem fvR_ok {K : PySem.W.Frag} {H0 F H : Hp} {v : V} {fv : FV} (h : FVb K F H v fv) : RVok K H0 F H v (fvR fv) := by
  cases fv with
  | d y => exact h
  | ol xs => exact h
section
variable {ca : CA} {W : WX} {X : Cx} {a b e : Expr} {es : List Expr} {fa fb : VEnv → Rs RV} {pos : Pos}
theorem ve_fld {cn f x : Str} {C : Addr} {p : Pos} (i : Nat) (T : ClsT X.K cn C) (n : NoAttr X.K C f) (hN : X.N[i]? = some x := by rfl) (hv : Vis X.env.scope x := by first | exact Or.inl rfl | exact Or.inr (Or.inl rfl) | exact Or.inr (Or.inr rfl)) (hd : (x == ("__debug__" : Str)) = false := by decide)
    (hcd : (x == ("__classdict__" : Str)) = false := by decide) (hb : attributeBase (.Name x p) f X.env (eval (.Name x p) X.env) = eval (.Name x p) X.env := by rfl) : VE ca W X (.Attribute (.Name x p) f pos) (cFld cn i f) := by
  refine ⟨_, pe_fld (pe_var hN hv hd hcd) hb, fun B F env σ H Q st q => ?_⟩
  unfold cFld at q
  split at q
  · rename_i r er
    obtain ⟨v, ev, h⟩ := st.sl i r er
    cases eo : obOf r with
    | none => rw [eo] at q; exact q.elim
    | some o =>
      obtain ⟨y, fs⟩ := o
      rw [eo] at q
      simp only [rsO_some, Rs.bind_ok] at q
      split at q
      · rename_i hy
        cases ef : fs.lookup f with
        | none => rw [ef] at q; exact q.elim
        | some fv =>
          rw [ef] at q
          obtain ⟨p', rfl, C', dx, vs, hc, hp, fk⟩ := obOf_ok h eo
          have eC := cls_one (hy ▸ hc) T.nm
          subst eC
          obtain ⟨w, lw, qw⟩ := fk.look ef
          exact ⟨_, ev, p', C', dx, vs, w, rfl, hp, T.cl, n, lw, q F H w (Grow.refl st.cfg) (fvR_ok qw)⟩
      · exact q.elim
  · exact q.elim
end
section
variable {K : PySem.W.Frag} {ca : CA} {B : Base} {F H F1 H1 : Hp} {env : VEnv} {σ : L2.St}
theorem StOk.setF (st : StOk K ca B F env σ H) (g : Grow F H F1 H1) {i : Nat} {me : Bool} {x f : Str} {fs : List (Str × FV)} {p C dx : Addr} {vs : List (Str × V)} {v : V} {fv : FV} (e : env[i]? = some (some (.ob me x fs))) (z : σ[i]? = some (some (.ref p))) (hp : H p = some (.ins C dx vs))
    (q : FVok K H F1 H1 v fv) : StOk K ca B F1 (env.set i (some (.ob me x (putFV f fv fs)))) σ (upd H1 p (.ins C dx (putF f v vs))) := by
  have ob := st.obAt e z
  obtain ⟨C', dx', vs', hc, hp', n0, f0, fo, nd⟩ := ob
  rw [hp] at hp'
  cases hp'
  have st1 := st.grow g
  have hp1 : H1 p = some (.ins C dx vs) := g.hh _ _ hp
  have f1 : F1 p = none := g.stillFree f0 hp
  have fo1 : FOk K B.H F1 H1 vs fs := fo.to g.ff fun q' _ ws n fq lq => ⟨n, g.stillFree fq lq, g.hh _ _ lq⟩
  have q1 : FVok K B.H F1 H1 v fv := by
    cases fv with
    | d y => exact q
    | ol xs => obtain ⟨q', ws, ev, n, r⟩ := q; exact ⟨q', ws, ev, none_n st.gr.hh n, r⟩
  have lst_ne : ∀ {q' : Addr} {ws : List V}, H1 q' = some (.lst ws) → q' ≠ p := fun h w => by rw [w, hp1] at h; cases h
  refine st.chg e z ⟨st1.gr.write n0 f1 hp1 (fun _ z => by cases z), g.ff, fun a o nR h nt => ?_, fun a o nR h fa => g.stillFree fa h, fun a hR => ?_⟩ (st1.rg.tb.aside hp1 (fun ps z => by cases z)) ?_ fun q' hq => ?_
  · rw [upd_ne (fun w => nR (.inl w))]
    exact g.hh.st a o h nt
  · rcases hR with rfl | hR
    · exact n0
    · rw [fla_eq fs hp] at hR
      exact (fo.at hR).1
  · refine ⟨C, dx, putF f v vs, hc, upd_same, n0, f1, ?_, ?_⟩
    · exact (FOk.put q1 fo1).to (Same.refl _) fun q' _ ws n fq lq => ⟨n, fq, by rw [upd_ne (lst_ne lq)]; exact lq⟩
    · refine nodup_put fo nd fun q' xs ev ef hq => ?_
      subst ev ef
      obtain ⟨q2, ws, ev, n, _⟩ := q
      cases ev
      obtain ⟨_, _, ws', hl⟩ := fo.at hq
      rw [n] at hl; cases hl
  · rw [fla_eq _ upd_same] at hq
    rcases lad_put fo hq with h | ⟨ev, xs, ef⟩
    · exact .inl (by rw [fla_eq fs hp]; exact h)
    · subst ev ef
      obtain ⟨q2, ws, ev, n, _⟩ := q
      cases ev
      exact .inr n
end
def fvOf (own : Bool) (r : RV) : Option FV := if own = true then (match r with | .ol xs => some (.ol xs) | _ => none) else r.toD.map .d
def sFldS (cn : Str) (own : Bool) (i : Nat) (f : Str) (fe : VEnv → Rs RV) : VEnv → Out := fun env => (fe env).out env fun r => match env[i]? with
  | some (some (.ob me x fs)) => if x = cn ∧ fs.length ≤ 900 then (rsO (fvOf own r)).out env fun fv => .nx (env.set i (some (.ob me x (putFV f fv fs)))) else .no
  | _ => .no
section
variable {ca : CA} {W : WX} {X : Cx} {a b e : Expr} {es : List Expr} {fa fb : VEnv → Rs RV} {pos : Pos}
theorem vs_fldS {cn f x : Str} {C : Addr} {p pos' : Pos} (own : Bool) (i : Nat) (T : ClsT X.K cn C) (n : NoAttr X.K C f) (he : VE ca W X e fa) (hs : swapsWith e (some (.Attribute (.Name x p) f pos')) pos.line X.env = pure false := by rfl)
    (hN : X.N[i]? = some x := by rfl) (hv : Vis X.env.scope x := by first | exact Or.inl rfl | exact Or.inr (Or.inl rfl) | exact Or.inr (Or.inr rfl)) (hd : (x == ("__debug__" : Str)) = false := by decide)
    (hcd : (x == ("__classdict__" : Str)) = false := by decide) : VS ca W X (.Assign [.Attribute (.Name x p) f pos'] e pos) (sFldS cn own i f fa) := by
  obtain ⟨t, pe, se⟩ := he
  refine ⟨_, ps_fld (pe_var hN hv hd hcd) pe hs, fun B F env σ H D st q => ?_⟩
  show t σ H fun y H1 => ∃ u, σ[i]? = some (some u) ∧ (∃ a C dx fs, u = .ref a ∧ H1 a = some (.ins C dx fs) ∧ Cls X.K C ∧ NoAttr X.K C f ∧ fs.length < 1000 ∧ D.nx σ (upd H1 a (.ins C dx (putF f y fs))))
  unfold sFldS at q
  refine outE se st q fun r F1 H1 v q1 g rv => ?_
  split at q1
  · rename_i me y fs er
    split at q1
    · rename_i hy
      obtain ⟨rfl, hl⟩ := hy
      cases ef : fvOf own r with
      | none => rw [ef] at q1; exact q1.elim
      | some fv =>
        rw [ef] at q1
        simp only [rsO_some, Rs.out_ok] at q1
        obtain ⟨u, ev, p', rfl, ob⟩ := st.sl i _ er
        obtain ⟨C', dx, vs, hc, hp, n0, f0, fo, nd⟩ := ob
        have eC := cls_one hc T.nm
        subst eC
        refine ⟨_, ev, p', C', dx, vs, rfl, g.hh _ _ hp, T.cl, n, by rw [fo.len]; omega, ?_⟩
        unfold fvOf at ef
        split at ef
        · cases r with
          | ol xs =>
            cases ef
            exact q1 _ σ _ (Same.refl _) (st.setF g er ev hp rv)
          | _ => cases ef
        · obtain ⟨d, ed, rfl⟩ := Option.map_eq_some_iff.mp ef
          obtain ⟨F2, g2, s2, q2⟩ := frz g (Fz.of rv ed)
          exact q1 _ σ _ s2 (st.setF (fv := .d d) g2 er ev hp q2)
    · exact q1.elim
  · exact q1.elim
end
section
variable {K : PySem.W.Frag} {ca : CA} {B : Base} {F H : Hp} {env : VEnv} {σ : L2.St}
theorem lad_mem {K : PySem.W.Frag} {H0 F H : Hp} {f : Str} {xs : List PyData} {q : Addr} : ∀ {vs : List (Str × V)} {fs : List (Str × FV)}, FOk K H0 F H vs fs → vs.lookup f = some (.ref q) → fs.lookup f = some (.ol xs) → q ∈ lad vs fs
  | _, _, .nil, h, _ => by cases h
  | (k, w) :: vs, (k', d') :: fs, .cons h1 h2, h, h' => by
    obtain ⟨e, q1⟩ := h1
    have e' : k = k' := e
    subst e'
    by_cases z : f = k
    · subst z
      simp [List.lookup] at h h'
      subst h h'
      simp [lad]
    · have z' : (f == k) = false := by simpa using z
      simp only [List.lookup, z'] at h h'
      have := lad_mem h2 h h'
      cases d' <;> cases w <;> first | exact this | exact List.mem_cons_of_mem _ this
theorem FOk.list {K : PySem.W.Frag} {H0 F H : Hp} {f : Str} {xs xs' : List PyData} {q : Addr} {ws ws' : List V} (hq : H q = some (.lst ws)) (n : H0 q = none) (fq : F q = none) (dq : DqA K F ws' xs') : ∀ {vs : List (Str × V)} {fs : List (Str × FV)}, FOk K H0 F H vs fs → (lad vs fs).Nodup → vs.lookup f = some (.ref q) → fs.lookup f = some (.ol xs) →
    FOk K H0 F (upd H q (.lst ws')) vs (putFV f (.ol xs') fs) ∧ lad vs (putFV f (.ol xs') fs) = lad vs fs
  | _, _, .nil, _, h, _ => by cases h
  | (k, w) :: vs, (k', d') :: fs, .cons h1 h2, nd, h, h' => by
    obtain ⟨e, q1⟩ := h1
    have e' : k = k' := e
    subst e'
    unfold putFV
    by_cases z : f = k
    · subst z
      simp [List.lookup] at h h'
      subst h h'
      rw [if_pos rfl]
      have nd' : q ∉ lad vs fs := (List.nodup_cons.mp nd).1
      refine ⟨.cons ⟨rfl, q, ws', rfl, n, fq, upd_same, dq⟩ (FOk.to (Same.refl _) h2 fun q' hq' us n' f' l' => ⟨n', f', ?_⟩), by simp [lad]⟩
      rw [upd_ne (show q' ≠ q from fun w => nd' (w ▸ hq'))]
      exact l'
    · have z' : (f == k) = false := by simpa using z
      simp only [List.lookup, z'] at h h'
      have ndt : (lad vs fs).Nodup := by
        cases d' <;> cases w <;> first | exact nd | exact (List.nodup_cons.mp nd).2
      obtain ⟨ih1, ih2⟩ := FOk.list hq n fq dq h2 ndt h h'
      rw [if_neg (Ne.symm z)]
      have hmem := lad_mem h2 h h'
      refine ⟨.cons ⟨rfl, ?_⟩ ih1, by cases d' <;> cases w <;> simp [lad, ih2]⟩
      cases d' with
      | d y => exact q1
      | ol ys =>
        obtain ⟨q2, us, ev, n2, f2, l2, dq2⟩ := q1
        have ev : w = .ref q2 := ev
        subst ev
        have : q2 ≠ q := fun w => (List.nodup_cons.mp nd).1 (w ▸ hmem)
        exact ⟨q2, us, rfl, n2, f2, by rw [upd_ne this]; exact l2, dq2⟩
theorem StOk.setL (st : StOk K ca B F env σ H) {i : Nat} {me : Bool} {x f : Str} {fs : List (Str × FV)} {p q C dx : Addr} {vs : List (Str × V)} {xs xs' : List PyData} {ws ws' : List V} (e : env[i]? = some (some (.ob me x fs))) (z : σ[i]? = some (some (.ref p))) (hp : H p = some (.ins C dx vs))
    (lv : vs.lookup f = some (.ref q)) (lf : fs.lookup f = some (.ol xs)) (hq : H q = some (.lst ws)) (dq : DqA K F ws' xs') : StOk K ca B F (env.set i (some (.ob me x (putFV f (.ol xs') fs)))) σ (upd H q (.lst ws')) := by
  have ob := st.obAt e z
  obtain ⟨C', dx', vs', hc, hp', n0, f0, fo, nd⟩ := ob
  rw [hp] at hp'
  cases hp'
  have hm := lad_mem fo lv lf
  obtain ⟨nq, fq, _⟩ := fo.at hm
  have nqp : p ≠ q := fun w => by rw [← w, hp] at hq; cases hq
  obtain ⟨fo', el⟩ := FOk.list hq nq fq dq fo nd lv lf
  refine st.chg e z ⟨st.gr.write nq fq hq (fun _ z => by cases z), Same.refl _, fun a o nR h nt => ?_, fun a o nR h fa => fa, fun a hR => ?_⟩ (st.rg.tb.aside hq (fun ps z => by cases z)) ⟨C, dx, vs, hc, by rw [upd_ne nqp]; exact hp, n0, f0, fo', by rw [el]; exact nd⟩ fun q' hq' => ?_
  · rw [upd_ne (fun w => nR (.inr (by rw [w, fla_eq fs hp]; exact hm)))]
    exact h
  · rcases hR with rfl | hR
    · exact n0
    · rw [fla_eq fs hp] at hR
      exact (fo.at hR).1
  · rw [fla_eq _ (show (upd H q (.lst ws')) p = some (.ins C dx vs) by rw [upd_ne nqp]; exact hp), el] at hq'
    exact .inl (by rw [fla_eq fs hp]; exact hq')
end
def sFApp (cn : Str) (i : Nat) (f : Str) (fe : VEnv → Rs RV) : VEnv → Out := fun env => match env[i]? with
  | some (some (.ob me x fs)) => (match fs.lookup f with
    | some (.ol xs) => if x = cn ∧ xs.length ≤ 1000000 then (fe env).out env fun r => (rsO r.toD).out env fun d => .nx (env.set i (some (.ob me x (putFV f (.ol (xs ++ [d])) fs)))) else .no
    | _ => .no)
  | _ => .no
section
variable {ca : CA} {W : WX} {X : Cx} {a b e : Expr} {es : List Expr} {fa fb : VEnv → Rs RV} {pos : Pos}
theorem vs_fapp {cn f x : Str} {C : Addr} {p1 p2 p3 p4 : Pos} (i : Nat) (T : ClsT X.K cn C) (n : NoAttr X.K C f) (he : VE ca W X e fa)
    (hN : X.N[i]? = some x := by rfl) (hv : Vis X.env.scope x := by first | exact Or.inl rfl | exact Or.inr (Or.inl rfl) | exact Or.inr (Or.inr rfl)) (hd : (x == ("__debug__" : Str)) = false := by decide) (hcd : (x == ("__classdict__" : Str)) = false := by decide)
    (hb : attributeBase (.Name x p1) f X.env (eval (.Name x p1) X.env) = eval (.Name x p1) X.env := by rfl)
    (hbase : attributeBase (.Attribute (.Name x p1) f p4) "append" X.env (eval (.Attribute (.Name x p1) f p4) X.env) = eval (.Attribute (.Name x p1) f p4) X.env := by rfl)
    (hfew : ((backTo p3 (starEach (e :: []) X.env)).all (fun x => !x.1) && (backToKw p3 (keywordEach [] X.env)).all (fun x => x.1.isSome)
      && decide ((e :: []).length + ([] : List Keyword).length + (if ([] : List Keyword).isEmpty then 0 else 1) < 30)) = true := by rfl)
    (hline : (p2.endLine == p3.line) = true := by rfl) (hs : starEach (e :: []) X.env = (false, eval e X.env) :: starEach [] X.env := by rfl) (hplain : (backTo p3 (starEach [] X.env)).any (·.1) = false := by rfl)
    (hsw : swapsWith (.Call (.Attribute (.Attribute (.Name x p1) f p4) "append" p2) [e] [] p3) none pos.line X.env = pure false := by rfl) :
    VS ca W X (.Expr (.Call (.Attribute (.Attribute (.Name x p1) f p4) "append" p2) [e] [] p3) pos) (sFApp cn i f fa) := by
  obtain ⟨t, pe, se⟩ := he
  refine ⟨_, ps_expr (pe_bm PySem.F.plainAttrs_list PySem.F.slot_list_append PySem.F.type_list_append mt_append (pe_fld (pe_var hN hv hd hcd) hb) (pa_cons pe pa_nil hs) hbase hfew hline hs hplain) hsw, fun B F env σ H D st q => ?_⟩
  show ∃ u, σ[i]? = some (some u) ∧ (∃ a C dx fs v, u = .ref a ∧ H a = some (.ins C dx fs) ∧ Cls X.K C ∧ NoAttr X.K C f ∧ fs.lookup f = some v ∧ (tyV X.K "list" v H ∧ t σ H fun y H1 => rAppend v [y] H1 fun _ H2 => D.nx σ H2))
  unfold sFApp at q
  split at q
  · rename_i me y fs er
    split at q
    · rename_i xs lf
      obtain ⟨u, ev, p', rfl, ob⟩ := st.sl i _ er
      obtain ⟨C', dx, vs, hc, hp, n0, f0, fo, nd⟩ := ob
      split at q
      · rename_i hy
        obtain ⟨rfl, hz⟩ := hy
        have eC := cls_one hc T.nm
        subst eC
        obtain ⟨w, lv, a', ws, ea, nq, fq, hq, dq⟩ := fo.look lf
        subst ea
        refine ⟨_, ev, p', C', dx, vs, .ref a', rfl, hp, T.cl, n, lv, .inl ⟨rfl, ws, SqL.of hq⟩, ?_⟩
        refine outE se st q fun r F1 H1 v q1 g rv => ?_
        cases ed : r.toD with
        | none => rw [ed] at q1; exact q1.elim
        | some d =>
          rw [ed] at q1
          simp only [rsO_some, Rs.out_ok] at q1
          obtain ⟨F2, g2, s2, q2⟩ := frz g (Fz.of rv ed)
          have st2 := st.grow g2
          have dq2 : DqA X.K F2 (ws ++ [v]) (xs ++ [d]) := (DqA.mono g2.ff _ _ dq).append (.cons q2 .nil)
          refine ⟨a', ws, v, rfl, rfl, g2.hh _ _ hq, by rw [dq.length]; exact million hz, ?_⟩
          exact q1 F2 σ _ s2 (st2.setL er ev (g2.hh _ _ hp) lv lf (g2.hh _ _ hq) dq2)
      · exact q.elim
    · exact q.elim
  · exact q.elim
end
end VL
namespace VL
open PySem PySem.Spec PyProof.Rows L2
inductive MR where
  | ok (x : Str) (fs : List (Str × FV)) (d : PyData)
  | ex (x : Str) (fs : List (Str × FV)) (c : Nat) (gs : List (Str × PyData))
  | no
def selfOf (env : VEnv) : Option (Str × List (Str × FV)) := match env[0]? with
  | some (some (RV.ob true x fs)) => some (x, fs)
  | _ => none
def Out.finM : Out → MR
  | .nx env => match selfOf env with
    | some o => .ok o.1 o.2 .none
    | none => .no
  | .rm (some o) d => .ok o.1 o.2 d
  | .ex c gs env => match selfOf env with
    | some o => .ex o.1 o.2 c gs
    | none => .no
  | _ => .no
def fnM (n : Nat) (body : VEnv → Out) : List RV → MR := fun rs => (body (rs.map some ++ List.replicate (n - rs.length) none)).finM
def PostMF (K : PySem.W.Frag) (ca : CA) (B : Base) (Q : VK) (E : XK) : MR → Prop
  | .ok x fs d => ∀ G H v, Grow B.F B.H G H → Dq K G v d → TabOk ca.T G H → ObOk K B.H G H B.me x fs → Q v H
  | .ex x fs c gs => ∀ G H cls dx, Grow B.F B.H G H → TabOk ca.T G H → ObOk K B.H G H B.me x fs → ExOk K ca G H cls dx c gs → E cls dx H
  | .no => False
def spM (K : PySem.W.Frag) (ca : CA) (n : Nat) (F : List RV → MR) : Sp := fun vs H Q E => vs.length = n ∧ ∃ (B : Base) (G : Hp) (rs : List RV), StOk K ca B G (rs.map some) (vs.map some) H ∧ PostMF K ca B Q E (F rs)
theorem pad_at {env : VEnv} {k j : Nat} {r : RV} (e : (env ++ List.replicate k none)[j]? = some (some r)) : j < env.length ∧ env[j]? = some (some r) := by
  by_cases h : j < env.length
  · rw [List.getElem?_append_left h] at e
    exact ⟨h, e⟩
  · rw [List.getElem?_append_right (by omega), List.getElem?_replicate] at e
    split at e <;> cases e
theorem StOk.pad {K : PySem.W.Frag} {ca : CA} {B : Base} {F H : Hp} {env : VEnv} {σ : L2.St} (st : StOk K ca B F env σ H) (k : Nat) : StOk K ca B F (env ++ List.replicate k none) (σ ++ List.replicate k none) H := by
  have sg : ∀ {j : Nat}, j < env.length → (σ ++ List.replicate k none)[j]? = σ[j]? := fun h => List.getElem?_append_left (by rw [← st.len]; exact h)
  refine ⟨st.gr, by simp [st.len], fun j r e => ?_, fun j r p e o s => ?_, fun i j r r' p ij e1 e2 o1 o2 s1 => ?_, ⟨st.rg.tb, fun a b p q me x fs r' e z hq e' o' => ?_, fun a b p p' q me me' x x' fs fs' ab e z e' z' hq => ?_, fun a p q x fs e z hq => ?_, fun a x fs e => ?_⟩⟩
  · obtain ⟨h, e⟩ := pad_at e
    obtain ⟨v, e1, q⟩ := st.sl j r e
    exact ⟨v, by rw [sg h]; exact e1, q⟩
  · obtain ⟨h, e⟩ := pad_at e
    rw [sg h] at s
    exact st.bo j r p e o s
  · obtain ⟨h1, e1⟩ := pad_at e1
    obtain ⟨h2, e2⟩ := pad_at e2
    rw [sg h1] at s1
    rw [sg h2]
    exact st.dis i j r r' p ij e1 e2 o1 o2 s1
  · obtain ⟨h1, e⟩ := pad_at e
    obtain ⟨h2, e'⟩ := pad_at e'
    rw [sg h1] at z
    rw [sg h2]
    exact st.rg.o1 a b p q me x fs r' e z hq e' o'
  · obtain ⟨h1, e⟩ := pad_at e
    obtain ⟨h2, e'⟩ := pad_at e'
    rw [sg h1] at z
    rw [sg h2] at z'
    exact st.rg.o2 a b p p' q me me' x x' fs fs' ab e z e' z' hq
  · obtain ⟨h1, e⟩ := pad_at e
    rw [sg h1] at z
    exact st.rg.o3 a p q x fs e z hq
  · obtain ⟨h1, e⟩ := pad_at e
    rw [sg h1]
    exact st.rg.me a x fs e
section
variable {ca : CA}
theorem fn_okM {P : Program} {w : World} {K : PySem.W.Frag} {mg : Str → Option Value} {base : Heap} {x qual : Str} {sd : Stmt} {fA : Addr} {fd : FuncData} {N ps : List Str} {k : Nat} {body : VEnv → Out} (F : Fun K x qual sd fA fd) (S : FnScope N ps (defScope sd))
    (hb : ∀ (cdv : Value) (A : Around) (outer : List PySem.Env) (s : Shared) (H : Hp) (E : XK), Room k (A.deeper (envOfC qual (defScope sd) s.heap.objs.size fA cdv)) → Takes (cxOf (L2.CX P w) P w K mg base N qual (defScope sd) fA cdv A outer s H E) (fun cls dx _ H' => E cls dx H') →
      PassesOwn (model P w) (A.deeper (envOfC qual (defScope sd) s.heap.objs.size fA cdv)) (envOfC qual (defScope sd) s.heap.objs.size fA cdv) (cxOf (L2.CX P w) P w K mg base N qual (defScope sd) fA cdv A outer s H E).xe →
      VSs ca (fun cls dx _ H' => E cls dx H') (cxOf (L2.CX P w) P w K mg base N qual (defScope sd) fA cdv A outer s H E) (defBody sd) body) : FnOk P w K mg base (L2.CX P w) (k + 1) fA fd ps (spM K ca ps.length (fnM N.length body)) := by
  refine F.okX S (fun vs H Q E h => h.1) (fun cdv A outer s H vs Q E hr h => ?_)
  obtain ⟨hl, B, G, rs, st, q⟩ := h
  have hrs : rs.length = vs.length := by have := st.len; simpa using this
  obtain ⟨t, p, sn⟩ := hb cdv A outer s H E hr (takes_of rfl rfl rfl rfl) (passes_of rfl)
  have st0 : StOk K ca B G (rs.map some ++ List.replicate (N.length - rs.length) none) (start N vs) H := by
    have := st.pad (N.length - rs.length)
    rw [hrs] at this ⊢
    exact this
  refine ⟨t, p, sn B G _ _ H _ st0 ?_⟩
  unfold fnM at q
  have at_ : ∀ {F' : Hp} {env : VEnv} {σ' : L2.St} {H' : Hp} {o : Str × List (Str × FV)}, StOk K ca B F' env σ' H' → selfOf env = some o → ObOk K B.H F' H' B.me o.1 o.2 := fun {F' env σ' H' o} st e => by
    unfold selfOf at e
    split at e
    · rename_i y fs e1
      cases e
      exact st.obAt e1 (st.rg.me 0 y fs e1)
    · cases e
  generalize hB : body (rs.map some ++ List.replicate (N.length - rs.length) none) = o at q ⊢
  cases o with
  | nx env =>
    cases es : selfOf env with
    | none => simp only [Out.finM, es] at q; exact q.elim
    | some o =>
      simp only [Out.finM, es] at q
      exact fun F' σ' H' s st => q F' H' .non st.gr .non st.rg.tb (at_ st es)
  | rt r => exact q.elim
  | rm o d =>
    cases o with
    | none => exact q.elim
    | some o => exact fun F' H' v g dq tb ob => q F' H' v g dq tb ob
  | rp x fs d => exact q.elim
  | ex c gs env =>
    cases es : selfOf env with
    | none => simp only [Out.finM, es] at q; exact q.elim
    | some o =>
      simp only [Out.finM, es] at q
      exact fun F' σ' H' cls dx s st x => q F' H' cls dx st.gr st.rg.tb (at_ st es) x
  | bk env => exact q.elim
  | ct env => exact q.elim
  | no => exact q.elim
end
open Classical in
noncomputable def hide (H : Hp) (R : Addr → Prop) : Hp := fun a => if R a then none else H a
theorem hide_in {H : Hp} {R : Addr → Prop} {a : Addr} (h : R a) : hide H R a = none := by unfold hide; rw [if_pos h]
theorem hide_out {H : Hp} {R : Addr → Prop} {a : Addr} (h : ¬ R a) : hide H R a = H a := by unfold hide; rw [if_neg h]
theorem hide_sub (H : Hp) (R : Addr → Prop) : Same (hide H R) H := fun a o h => by
  by_cases z : R a
  · rw [hide_in z] at h; cases h
  · rw [hide_out z] at h; exact h
theorem hide_none {H : Hp} {R : Addr → Prop} {a : Addr} (h : hide H R a = none) : R a ∨ H a = none := by
  by_cases z : R a
  · exact .inl z
  · rw [hide_out z] at h; exact .inr h
section
variable {K : PySem.W.Frag} {ca : CA} {B : Base} {F H F1 H1 : Hp} {env : VEnv} {σ : L2.St}
abbrev regOf (H : Hp) (p : Addr) (fs : List (Str × FV)) : Addr → Prop := fun a => a = p ∨ a ∈ fla H p fs
def RV.pb : RV → Bool
  | .d _ => true
  | .bl _ => true
  | _ => false
theorem stMB (gr : Grow B.F B.H F H) (tb : TabOk ca.T F H) {x : Str} {fs : List (Str × FV)} (ob : ObOk K B.H F H B.me x fs) {vs : List V} {rs : List RV} (pr : Paired (fun v r => RVok K B.H F H v r) vs rs) (hp : rs.all RV.pb = true) :
    (∀ (j : Nat) (r : RV) (a : Addr), rs[j]? = some r → r.isB = true → vs[j]? = some (.ref a) → ∃ o, B.H a = some o) → StOk K ca B F ((RV.ob true x fs :: rs).map some) ((V.ref B.me :: vs).map some) H := by
  intro hbo
  obtain ⟨C, dx, us, hi⟩ := ob.ins
  have lk : ∀ {j : Nat} {r : RV}, ((RV.ob true x fs :: rs).map some)[j]? = some (some r) → (j = 0 ∧ r = .ob true x fs) ∨ (∃ k, j = k + 1 ∧ rs[k]? = some r) := fun {j r} h => by
    cases j with
    | zero => simp at h; exact .inl ⟨rfl, h.symm⟩
    | succ k =>
      simp at h
      exact .inr ⟨k, rfl, h⟩
  have pbk : ∀ {k : Nat} {r : RV}, rs[k]? = some r → r.pb = true := fun {k r} h => List.all_eq_true.mp hp r (List.mem_of_getElem? h)
  have no : ∀ {j : Nat} {r : RV}, ((RV.ob true x fs :: rs).map some)[j]? = some (some r) → r.own = true → j = 0 ∧ r = .ob true x fs := fun {j r} h o => by
    rcases lk h with h | ⟨k, _, h⟩
    · exact h
    · have z := pbk h
      cases r with
      | d y => cases o
      | bl ys => cases o
      | _ => cases z
  have get : ∀ {vs : List V} {rs : List RV} {k : Nat} {r : RV}, Paired (fun v r => RVok K B.H F H v r) vs rs → rs[k]? = some r → ∃ v, vs[k]? = some v ∧ RVok K B.H F H v r := by
    intro vs rs k r h
    induction h generalizing k with
    | nil => intro e; simp at e
    | cons h1 h2 ih => intro e; cases k with
      | zero => simp at e; subst e; exact ⟨_, rfl, h1⟩
      | succ k => obtain ⟨v, q1, q2⟩ := ih (k := k) (by simpa using e); exact ⟨v, by simpa using q1, q2⟩
  refine ⟨gr, by simp [Paired.length pr], fun j r h => ?_, fun j r a h o s => ?_, fun j k r r' a jk h1 h2 o1 o2 s1 => ?_,
    ⟨tb, fun a b p1 q me1 y gs r h1 s1 hq h2 o2 s2 => ?_, fun a b p1 p2 q me1 me2 y y' gs gs' ab h1 s1 h2 s2 hq => ?_, fun a p1 q y gs h1 s1 hq => ?_, fun a y gs h1 => ?_⟩⟩
  · rcases lk h with ⟨rfl, rfl⟩ | ⟨k, rfl, hd⟩
    · exact ⟨.ref B.me, rfl, B.me, rfl, ob⟩
    · obtain ⟨v, hv, q⟩ := get pr hd
      exact ⟨v, by simp [hv], q⟩
  · rcases lk h with ⟨rfl, rfl⟩ | ⟨k, rfl, hd⟩
    · cases o
    · exact hbo k r a hd o (by simpa using s)
  · exact (jk ((no h1 o1).1.trans (no h2 o2).1.symm)).elim
  · obtain ⟨rfl, e1⟩ := no h1 rfl
    cases e1
    obtain ⟨rfl, _⟩ := no h2 o2
    have s1 : some (some (V.ref B.me)) = some (some (.ref p1)) := s1
    have s2 : some (some (V.ref B.me)) = some (some (.ref q)) := s2
    cases s1
    injection s2 with s2
    injection s2 with s2
    injection s2 with s2
    obtain ⟨_, _, ws, hl⟩ := ob.at hq
    rw [← s2, hi] at hl; cases hl
  · exact (ab ((no h1 rfl).1.trans (no h2 rfl).1.symm)).elim
  · rcases lk h1 with ⟨_, e1⟩ | ⟨k, _, hd⟩
    · cases e1
    · have := pbk hd
      cases this
  · obtain ⟨rfl, _⟩ := no h1 rfl
    rfl
theorem StOk.backM (st : StOk K ca B F env σ H) {i : Nat} {me : Bool} {x x' : Str} {fs fs' : List (Str × FV)} {p : Addr} {G' H' : Hp} (e : env[i]? = some (some (.ob me x fs))) (z : σ[i]? = some (some (.ref p)))
    (g : Grow F (hide H (regOf H p fs)) G' H') (tb : TabOk ca.T G' H') (ob' : ObOk K (hide H (regOf H p fs)) G' H' p x' fs') : StOk K ca B G' (env.set i (some (.ob me x' fs'))) σ H' := by
  have ob := st.obAt e z
  have base : ∀ a, regOf H p fs a → B.H a = none := fun a hR => by
    rcases hR with rfl | hR
    · obtain ⟨_, _, _, _, _, n0, _⟩ := ob; exact n0
    · exact (ob.at hR).1
  have nb : ∀ {a : Addr}, hide H (regOf H p fs) a = none → B.H a = none := fun h => by
    rcases hide_none h with h | h
    · exact base _ h
    · exact none_n st.gr.hh h
  have nR : ∀ {a : Addr} {o : HO}, B.H a = some o → ¬ regOf H p fs a := fun h hR => by rw [base _ hR] at h; cases h
  refine st.chg e z ⟨⟨g.cfg, st.gr.ff.trans g.ff, ⟨fun a o h nt => ?_, fun a ps h => ?_⟩, fun a o h => ?_⟩, g.ff, fun a o h1 h nt => g.hh.st a o (by rw [hide_out h1]; exact h) nt, fun a o h1 h f => ?_, base⟩ tb ?_ fun q hq => ?_
  · exact g.hh.st a o (by rw [hide_out (nR h)]; exact st.gr.hh.st a o h nt) nt
  · obtain ⟨ps1, h1, t1⟩ := st.gr.hh.tb a ps h
    obtain ⟨ps2, h2, t2⟩ := g.hh.tb a ps1 (by rw [hide_out (nR h)]; exact h1)
    exact ⟨ps2, h2, fun t => t2 (t1 t)⟩
  · rcases g.nw a o h with h | h
    · exact st.gr.nw a o h
    · exact .inr (nb h)
  · cases q : G' a with
    | none => rfl
    | some u =>
      rcases g.nw a u q with w | w
      · rw [f] at w; cases w
      · rw [hide_out h1, h] at w; cases w
  · obtain ⟨C, dx, vs, c, h1, n0, f0, fo, nd⟩ := ob'
    exact ⟨C, dx, vs, c, h1, nb n0, f0, fo.to (Same.refl _) fun q hq ws n f l => ⟨nb n, f, l⟩, nd⟩
  · have h1 := ob'.at hq
    obtain ⟨n, _, ws, hl⟩ := h1
    rcases hide_none n with (rfl | hR) | hN
    · obtain ⟨C, dx, vs, hi⟩ := ob'.ins
      rw [hi] at hl; cases hl
    · exact .inl hR
    · exact .inr hN
end
inductive MO (α : Type) where
  | ok (a : α) (env : VEnv)
  | ex (c : Nat) (gs : List (Str × PyData)) (env : VEnv)
  | no
def PostM (K : PySem.W.Frag) (ca : CA) (W : WX) (B : Base) (σ : L2.St) (F : Hp) (Q : VK) : MO PyData → Prop
  | .ok d env => ∀ F' H' v, Same F F' → StOk K ca B F' env σ H' → Dq K F' v d → Q v H'
  | .ex c gs env => ∀ F' H' cls dx, Same F F' → StOk K ca B F' env σ H' → ExOk K ca F' H' cls dx c gs → W cls dx σ H'
  | .no => False
def PostMT (K : PySem.W.Frag) (ca : CA) (W : WX) (B : Base) (σ : L2.St) (F : Hp) (Q : Bool → Hp → Prop) : MO Bool → Prop
  | .ok b env => ∀ F' H', Same F F' → StOk K ca B F' env σ H' → Q b H'
  | .ex c gs env => ∀ F' H' cls dx, Same F F' → StOk K ca B F' env σ H' → ExOk K ca F' H' cls dx c gs → W cls dx σ H'
  | .no => False
def SndM (K : PySem.W.Frag) (ca : CA) (W : WX) (t : TE) (f : VEnv → MO PyData) : Prop := ∀ B F env σ H Q, StOk K ca B F env σ H → PostM K ca W B σ F Q (f env) → t σ H Q
structure VM (ca : CA) (W : WX) (X : Cx) (e : Expr) (f : VEnv → MO PyData) : Prop where
  ex : ∃ t, PE X e t ∧ SndM X.K ca W t f
def MO.out {α : Type} (m : MO α) (k : α → VEnv → Out) : Out := match m with
  | .ok a env => k a env
  | .ex c gs env => .ex c gs env
  | .no => .no
@[simp] theorem MO.out_ok {α : Type} (a : α) (env) (k : α → VEnv → Out) : (MO.ok a env).out k = k a env := rfl
@[simp] theorem MO.out_ex {α : Type} (c gs env) (k : α → VEnv → Out) : (MO.ex c gs env : MO α).out k = .ex c gs env := rfl
def MO.bind {α β : Type} (m : MO α) (k : α → VEnv → MO β) : MO β := match m with
  | .ok a env => k a env
  | .ex c gs env => .ex c gs env
  | .no => .no
@[simp] theorem MO.bind_ok {α β : Type} (a : α) (env) (k : α → VEnv → MO β) : (MO.ok a env).bind k = k a env := rfl
def Rs.mo {α β : Type} (m : Rs α) (env : VEnv) (k : α → MO β) : MO β := match m with
  | .ok a => k a
  | .ex c gs => .ex c gs env
  | .no => .no
@[simp] theorem Rs.mo_ok {α β : Type} (a : α) (env) (k : α → MO β) : (Rs.ok a).mo env k = k a := rfl
theorem PostM.mono {K : PySem.W.Frag} {ca : CA} {W : WX} {B : Base} {σ : L2.St} {F F1 : Hp} {Q : VK} {m : MO PyData} (e : Same F F1) (h : PostM K ca W B σ F Q m) : PostM K ca W B σ F1 Q m := by
  cases m with
  | ok d env => exact fun F' H' v s st q => h F' H' v (e.trans s) st q
  | ex c gs env => exact fun F' H' cls dx s st q => h F' H' cls dx (e.trans s) st q
  | no => exact h
theorem PostMT.mono {K : PySem.W.Frag} {ca : CA} {W : WX} {B : Base} {σ : L2.St} {F F1 : Hp} {Q : Bool → Hp → Prop} {m : MO Bool} (e : Same F F1) (h : PostMT K ca W B σ F Q m) : PostMT K ca W B σ F1 Q m := by
  cases m with
  | ok d env => exact fun F' H' s st => h F' H' (e.trans s) st
  | ex c gs env => exact fun F' H' cls dx s st q => h F' H' cls dx (e.trans s) st q
  | no => exact h
def RV.isN : RV → Bool
  | .d _ => true
  | .ol _ => true
  | _ => false
def mCall (i : Nat) (F : List RV → MR) (rs : List RV) (env : VEnv) : MO PyData := match env[i]? with
  | some (some (RV.ob me x fs)) => if rs.all RV.isN = true then (match F (.ob true x fs :: rs.map RV.arg) with
      | .ok x' fs' d => .ok d (env.set i (some (.ob me x' fs')))
      | .ex x' fs' c gs => .ex c gs (env.set i (some (.ob me x' fs')))
      | .no => .no) else .no
  | _ => .no
def cM (cn : Str) (i : Nat) (m : Str) (F : List RV → MR) (fa : VEnv → Rs (List RV)) : VEnv → MO PyData := fun env => match env[i]? with
  | some (some (RV.ob _ x fs)) => if x = cn ∧ fs.lookup m = none then (fa env).mo env fun rs => mCall i F rs env else .no
  | _ => .no
def cMF (i : Nat) (F : List RV → MR) (fa : VEnv → Rs (List RV)) : VEnv → MO PyData := fun env => match env[i]? with
  | some (some (RV.ob _ _ _)) => (fa env).mo env fun rs => mCall i F rs env
  | _ => .no
section
variable {K : PySem.W.Frag} {ca : CA} {W : WX} {B : Base} {F H F1 H1 : Hp} {env : VEnv} {σ : L2.St}
theorem snd_callM {n : Nat} {Fm : List RV → MR} {i : Nat} {Q : VK} {rs : List RV} {vs : List V} {p : Addr} (st : StOk K ca B F env σ H) (g : Grow F H F1 H1) (pr : Paired (fun v r => RVok K H F1 H1 v r) vs rs) (z : σ[i]? = some (some (.ref p)))
    (hn : rs.length + 1 = n) (q : PostM K ca W B σ F Q (mCall i Fm rs env)) : spM K ca n Fm (.ref p :: vs) H1 Q (fun cls dx H' => W cls dx σ H') := by
  unfold mCall at q
  split at q
  · rename_i me x fs e
    split at q
    · rename_i hg
      obtain ⟨F2, g2, s2, q2⟩ := args_go g (Same.refl _) pr
      have st2 := st.grow g2
      have ob := st.obAt e z
      have ob2 := st2.obAt e z
      have fl : fla H1 p fs = fla H p fs := fla_grow g2.hh fs (by obtain ⟨C, dx, us, h⟩ := ob.ins; exact ⟨C, dx, us, h⟩)
      have hall := List.all_eq_true.mp hg
      have hpb : (rs.map RV.arg).all RV.pb = true := List.all_eq_true.mpr fun r hr => by
        obtain ⟨r', hr', rfl⟩ := List.mem_map.mp hr
        have := hall r' hr'
        cases r' with
        | d y => rfl
        | ol ys => rfl
        | _ => cases this
      have get : ∀ {vs : List V} {ss : List RV} {k : Nat} {r : RV}, Paired (fun v r => RVok K H F1 H1 v r) vs ss → ss[k]? = some r → ∃ v, vs[k]? = some v ∧ RVok K H F1 H1 v r := by
        intro vs ss k r h
        induction h generalizing k with
        | nil => intro e; simp at e
        | cons h1 h2 ih => intro e; cases k with
          | zero => simp at e; subst e; exact ⟨_, rfl, h1⟩
          | succ k => obtain ⟨v, q1, q2⟩ := ih (k := k) (by simpa using e); exact ⟨v, by simpa using q1, q2⟩
      have go : ∀ {vs : List V} {ss : List RV}, (∀ r ∈ ss, r.pb = true) → Paired (fun v r => RVok K H1 F2 H1 v r) vs ss → Paired (fun v r => RVok K (hide H1 (regOf H1 p fs)) F2 H1 v r) vs ss := by
        intro vs ss hs h
        induction h with
        | nil => exact .nil
        | @cons v r vs ss h1 _ ih =>
          refine .cons ?_ (ih fun r hr => hs r (List.mem_cons_of_mem _ hr))
          have := hs r List.mem_cons_self
          cases r with
          | d y => exact h1
          | bl ys => exact h1
          | _ => cases this
      have obc : ObOk K (hide H1 (regOf H1 p fs)) F2 H1 p x fs := ob2.to (Same.refl _) (hide_in (.inl rfl)) (by obtain ⟨_, _, _, _, _, _, f0, _⟩ := ob2; exact f0) rfl fun q hq ws n f l => ⟨hide_in (.inr hq), f, l⟩
      refine ⟨by rw [List.length_cons, Paired.length pr, hn], { F := F2, H := hide H1 (regOf H1 p fs), me := p }, F2, RV.ob true x fs :: rs.map RV.arg,
        stMB (B := { F := F2, H := hide H1 (regOf H1 p fs), me := p }) ⟨st2.cfg, Same.refl _, (hide_sub H1 _).n, fun _ _ h => .inl h⟩ st2.rg.tb obc (go (List.all_eq_true.mp hpb) q2) hpb (fun k r a hk o hv => ?_), ?_⟩
      · rw [List.getElem?_map] at hk
        obtain ⟨r', hr', rfl⟩ := Option.map_eq_some_iff.mp hk
        obtain ⟨v, hv', rv⟩ := get pr hr'
        rw [hv] at hv'
        cases hv'
        have := hall r' (List.mem_of_getElem? hr')
        cases r' with
        | d y => cases o
        | ol ys =>
          obtain ⟨a', ws, ev, n0, _, h2, _⟩ := rv
          cases ev
          refine ⟨_, (hide_out fun hR => ?_).trans h2⟩
          rcases hR with rfl | hR
          · obtain ⟨C, dx, us, hi⟩ := ob.ins
            rw [hi] at n0; cases n0
          · rw [fl] at hR
            obtain ⟨_, _, ws', hl⟩ := ob.at hR
            rw [hl] at n0; cases n0
        | _ => cases this
      cases ef : Fm (.ob true x fs :: rs.map RV.arg) with
      | ok x' fs' d =>
        rw [ef] at q
        exact fun G' H' v gg dv tb ob => q G' H' v (g2.ff.trans gg.ff) (st2.backM e z gg tb ob) dv
      | ex x' fs' c gs =>
        rw [ef] at q
        exact fun G' H' cls dx gg tb ob xo => q G' H' cls dx (g2.ff.trans gg.ff) (st2.backM e z gg tb ob) xo
      | no => rw [ef] at q; exact q.elim
    · exact q.elim
  · exact q.elim
end
end VL
namespace VL
open PySem PySem.Spec PyProof.Rows L2
def tMethD (C : Addr) (m : Str) (sp : Sp) (E : L2.St → XK) (ta : TE) (t : TA) : TE := fun σ H Q => ta σ H fun x H1 => ∃ a dx fs, x = .ref a ∧ H1 a = some (.ins C dx fs) ∧ fs.lookup m = none ∧ t σ H1 fun vs H2 => sp (x :: vs) H2 Q (E σ)
section
variable {X : Cx} {CX : CXT} {k : Nat} {f C : Addr} {fd : FuncData} {ps : List Str} {sp : Sp} {E : L2.St → XK} {x m : Str} {p pos apos : Pos} {e o : Expr} {es : List Expr} {ta : TE} {t : TA}
theorem pe_methD {pl : Sem Bool} (he : PE X o ta) (c : Cls X.K C) (hm : Meth X.K C m f) (F : FnOk X.prog X.w X.K X.mg X.base CX k f fd ps sp) (hr : Room k X.A) (hb : Binds X.K fd ps []) (hx : ∀ σ, PassesAt CX X σ (E σ)) (ha : PA X (e :: es) t)
    (hst : starEach (e :: es) X.env = (false, eval e X.env) :: starEach es X.env := by rfl) (hpl : (backTo pos (starEach es X.env)).any (·.1) = false := by rfl)
    (ht : eval (.Call (.Attribute o m apos) (e :: es) [] pos) X.env = (do
      let ov ← eval o X.env
      standAt apos.atName
      let (f, first) ← holding [ov] (getMethod ov m pl)
      callWith pos f first (backTo pos (starEach (e :: es) X.env)) (backToKw pos (keywordEach [] X.env))) := by rfl) :
    PE X (.Call (.Attribute o m apos) (e :: es) [] pos) (tMethD C m sp E ta t) := by
  refine ⟨fun pins s σ H Q I h => ?_⟩
  refine PySem.W.methodCall_KW (pl := pl) (thn (he.run pins s σ H _ I h) fun u s1 ⟨x, H1, I1, rx, a, dx, fs, ex, ea, l, q⟩ => ?_) ht
  subst ex
  obtain rfl : u = Value.ref a := rx
  refine getmeth_ok I1 ea c hm l ?_
  refine PySem.W.callWith_K (first := [.ref a]) (h₀ := X.base) I.ok.mod.kin hm.kp (thn (ha.run pos pins s1 σ H1 _ I1 q) fun us s2 ⟨vs, H2, I2, r, q2⟩ => ⟨I2.kIn, ?_⟩) hst hpl
  exact run_fnSD (dvs := []) (ds := []) (us := .ref a :: us) (vs := .ref a :: vs) F hr hb .nil (hx σ) I2 (.cons rfl r) (by rw [List.append_nil]; exact q2)
end
section
variable {K : PySem.W.Frag} {ca : CA} {W : WX} {B : Base} {F H F1 H1 : Hp} {env : VEnv} {σ : L2.St}
theorem exM {c : Nat} {gs : List (Str × PyData)} {Q : VK} (st : StOk K ca B F env σ H) (q : PostM K ca W B σ F Q (.ex c gs env)) : PostX K ca W σ F H c gs := fun F' H' cls dx g xo => q F' H' cls dx g.ff (st.grow g) xo
end
section
variable {ca : CA} {W : WX} {X : Cx} {a b e : Expr} {es : List Expr} {fa fb : VEnv → Rs RV} {pos : Pos} {st : Stmt}
theorem vm_meth {cn m x : Str} {C f : Addr} {fd : FuncData} {ps : List Str} {k n : Nat} {Fm : List RV → MR} {fv : VEnv → Rs (List RV)} {p apos : Pos} {pl : Sem Bool} (i : Nat) (T : ClsT X.K cn C) (hm : Meth X.K C m f) (Fo : FnOk X.prog X.w X.K X.mg X.base (L2.CX X.prog X.w) k f fd ps (spM X.K ca n Fm)) (hr : Room k X.A) (hb : Binds X.K fd ps []) (tk : Takes X W)
    (ha : VA ca W X (e :: es) fv) (hN : X.N[i]? = some x := by rfl) (hv : Vis X.env.scope x := by first | exact Or.inl rfl | exact Or.inr (Or.inl rfl) | exact Or.inr (Or.inr rfl)) (hd : (x == ("__debug__" : Str)) = false := by decide) (hcd : (x == ("__classdict__" : Str)) = false := by decide)
    (hst : starEach (e :: es) X.env = (false, eval e X.env) :: starEach es X.env := by rfl) (hpl : (backTo pos (starEach es X.env)).any (·.1) = false := by rfl)
    (ht : eval (.Call (.Attribute (.Name x p) m apos) (e :: es) [] pos) X.env = (do
      let ov ← eval (.Name x p) X.env
      standAt apos.atName
      let (f, first) ← holding [ov] (getMethod ov m pl)
      callWith pos f first (backTo pos (starEach (e :: es) X.env)) (backToKw pos (keywordEach [] X.env))) := by rfl) :
    VM ca W X (.Call (.Attribute (.Name x p) m apos) (e :: es) [] pos) (cM cn i m (fun rs => if rs.length = n then Fm rs else .no) fv) := by
  obtain ⟨t, pa, sa⟩ := ha
  refine ⟨_, pe_methD (pl := pl) (E := WE W) (pe_var hN hv hd hcd) T.cl hm Fo hr hb (fun σ => passAt tk σ) pa hst hpl ht, fun B F env σ H Q st q => ?_⟩
  show ∃ v, σ[i]? = some (some v) ∧ (∃ a dx fs, v = .ref a ∧ H a = some (.ins C dx fs) ∧ fs.lookup m = none ∧ t σ H fun vs H2 => spM X.K ca n Fm (v :: vs) H2 Q (WE W σ))
  unfold cM at q
  split at q
  · rename_i me y fs er
    split at q
    · rename_i hy
      obtain ⟨rfl, hl⟩ := hy
      obtain ⟨u, ev, p', rfl, ob⟩ := st.sl i _ er
      have obo := ob.bo
      obtain ⟨C', dx, vs, hc, hp, fb⟩ := obo
      have eC := cls_one hc T.nm
      subst eC
      refine ⟨_, ev, p', dx, vs, rfl, hp, fb.none hl, ?_⟩
      refine sa B F env σ H _ st ?_
      cases ex : fv env with
      | ok rs =>
        rw [ex] at q
        simp only [Rs.mo_ok] at q
        intro F1 H1 ws g pr
        by_cases hn : rs.length + 1 = n
        · refine snd_callM (F := F) st g pr ev hn ?_
          have : mCall i (fun rs => if rs.length = n then Fm rs else .no) rs env = mCall i Fm rs env := by
            unfold mCall
            rw [er]
            simp only [List.length_cons, List.length_map, hn, if_true]
          rw [this] at q
          exact q
        · exfalso
          unfold mCall at q
          rw [er] at q
          simp only [List.length_cons, List.length_map, if_neg hn] at q
          split at q <;> exact q
      | ex c gs => rw [ex] at q; exact exM st q
      | no => rw [ex] at q; exact q
    · exact q.elim
  · exact q.elim
def m2 (g : RV → RV → Rs RV) (fm : VEnv → MO PyData) (fb : VEnv → Rs RV) : VEnv → MO PyData := fun env => (fm env).bind fun d env' => (fb env').mo env' fun y => (g (.d d) y).mo env' fun r => match r with
  | .d z => .ok z env'
  | _ => .no
def mB (fm : VEnv → MO PyData) : VEnv → MO Bool := fun env => (fm env).bind fun d env' => match d with
  | .bool b => .ok b env'
  | _ => .no
def mPT (f : VEnv → Rs Bool) : VEnv → MO Bool := fun env => (f env).mo env fun b => .ok b env
def mNot (f : VEnv → MO Bool) : VEnv → MO Bool := fun env => (f env).bind fun b env' => .ok (!b) env'
def mOr (f g : VEnv → MO Bool) : VEnv → MO Bool := fun env => (f env).bind fun b env' => if b = true then .ok true env' else g env'
theorem outM {K : PySem.W.Frag} {B : Base} {F H : Hp} {env : VEnv} {σ : L2.St} {t : TE} {f : VEnv → MO PyData} {Q : VK} {D : Ends} {k : PyData → VEnv → Out} (s : SndM K ca W t f) (st : StOk K ca B F env σ H)
    (post : PostS K ca W B F D ((f env).out k)) (h : ∀ d env' F1 H1 v, PostS K ca W B F1 D (k d env') → Same F F1 → StOk K ca B F1 env' σ H1 → Dq K F1 v d → Q v H1) : t σ H Q := by
  refine s B F env σ H Q st ?_
  cases e : f env with
  | ok d env' => rw [e] at post; exact fun F' H' v s1 st1 q => h d env' F' H' v (PostS.mono s1 post) s1 st1 q
  | ex c gs env' => rw [e] at post; exact fun F' H' cls dx s1 st1 xo => post F' σ H' cls dx s1 st1 xo
  | no => rw [e] at post; exact post
def sDropM (fm : VEnv → MO PyData) : VEnv → Out := fun env => (fm env).out fun _ env' => .nx env'
def sSetM (i : Nat) (fm : VEnv → MO PyData) : VEnv → Out := fun env => (fm env).out fun d env' => if i < env'.length then .nx (env'.set i (some (.d d))) else .no
theorem vs_setM {fm : VEnv → MO PyData} {i : Nat} {x : Str} {pos' : Pos} (hN : X.N.Nodup) (hi : X.N[i]? = some x) (hx : Loc X.env.scope x) (he : VM ca W X e fm) (hs : swapsWith e (some (.Name x pos')) pos.line X.env = pure false := by rfl) (hf : X.fn x = true ∨ X.env.scope.names.lookup x = some .local := by first | exact .inl rfl | exact .inr rfl | assumption) :
    VS ca W X (.Assign [.Name x pos'] e pos) (sSetM i fm) := by
  obtain ⟨t, pe, se⟩ := he
  refine ⟨_, ps_set hN hi hx pe hs hf, fun B F env σ H D st p => ?_⟩
  show t σ H fun x H1 => D.nx (σ.set i (some x)) H1
  refine outM se st p fun d env' F1 H1 v p1 s1 st1 q => ?_
  split at p1
  · rename_i hl
    exact p1 F1 _ H1 (Same.refl _) (st1.putD hl q)
  · exact p1.elim
def sIfM (c : VEnv → MO Bool) (f g : VEnv → Out) : VEnv → Out := fun env => (c env).out fun b env' => if b = true then f env' else g env'
def rmO (d : PyData) (env : VEnv) : Out := match selfOf env with
  | some o => .rm (some o) d
  | none => .no
theorem rm_ok {K : PySem.W.Frag} {B : Base} {F H : Hp} {env : VEnv} {σ : L2.St} {D : Ends} {d : PyData} {v : V} (st : StOk K ca B F env σ H) (p : PostS K ca W B F D (rmO d env)) (q : Dq K F v d) : D.rt v H := by
  unfold rmO at p
  cases es : selfOf env with
  | none => rw [es] at p; exact p.elim
  | some o =>
    rw [es] at p
    refine p F H v st.gr q st.rg.tb ?_
    unfold selfOf at es
    split at es
    · rename_i y fs e1
      cases es
      exact st.obAt e1 (st.rg.me 0 y fs e1)
    · cases es
def sRetS (fe : VEnv → Rs RV) : VEnv → Out := fun env => (fe env).out env fun r => (rsO r.toD).out env fun d => rmO d env
theorem vs_retS (he : VE ca W X e fa) : VS ca W X (.Return (some e) pos) (sRetS fa) := by
  obtain ⟨t, pe, se⟩ := he
  refine ⟨_, ps_ret pe, fun B F env σ H D st p => ?_⟩
  refine outE (t := t) (Q := D.rt) se st p fun r F1 H1 v p1 g q => ?_
  cases ed : r.toD with
  | none => rw [ed] at p1; exact p1.elim
  | some d =>
    rw [ed] at p1
    simp only [rsO_some, Rs.out_ok] at p1
    obtain ⟨F2, g2, s2, q2⟩ := frz g (Fz.of q ed)
    exact rm_ok (st.grow g2) (PostS.mono s2 p1) q2
def sRetNS : VEnv → Out := fun env => rmO .none env
def sRetM (fm : VEnv → MO PyData) : VEnv → Out := fun env => (fm env).out fun d env' => rmO d env'
theorem vs_retM {fm : VEnv → MO PyData} (he : VM ca W X e fm) : VS ca W X (.Return (some e) pos) (sRetM fm) := by
  obtain ⟨t, pe, se⟩ := he
  refine ⟨_, ps_ret pe, fun B F env σ H D st p => ?_⟩
  exact outM (t := t) (Q := D.rt) se st p fun d env' F1 H1 v p1 s1 st1 q => rm_ok st1 p1 q
end
end VL
namespace VL
open PySem PySem.Spec PyProof.Rows L2
section
variable {ca : CA} {W : WX} {X : Cx} {a b e : Expr} {es : List Expr} {fa fb : VEnv → Rs RV} {pos : Pos} {st : Stmt}
def okR : Rs RV → Rs RV
  | .ok r => .ok r
  | _ => .no
def cProp (cn : Str) (i : Nat) (G : List RV → Rs RV) : VEnv → Rs RV := fun env => match env[i]? with
  | some (some r) => (rsO (obOf r)).bind fun o => if o.1 = cn then okR (G [.bo o.1 o.2]) else .no
  | _ => .no
def cMP (cn : Str) (i : Nat) (m : Str) (G : List RV → Rs RV) (fv : VEnv → Rs (List RV)) : VEnv → Rs RV := fun env => match env[i]? with
  | some (some r) => (rsO (obOf r)).bind fun o => if o.1 = cn ∧ o.2.lookup m = none then (fv env).bind fun rs => G (.bo o.1 o.2 :: rs.map RV.arg) else .no
  | _ => .no
theorem ve_methP {cn m x : Str} {C f : Addr} {fd : FuncData} {ps : List Str} {k n : Nat} {G : List RV → Rs RV} {fv : VEnv → Rs (List RV)} {p apos : Pos} {pl : Sem Bool} (i : Nat) (T : ClsT X.K cn C) (hm : Meth X.K C m f) (Fo : FnOk X.prog X.w X.K X.mg X.base (L2.CX X.prog X.w) k f fd ps (spV X.K ca n G)) (hr : Room k X.A) (hb : Binds X.K fd ps []) (tk : Takes X W)
    (ha : VA ca W X (e :: es) fv) (hN : X.N[i]? = some x := by rfl) (hv : Vis X.env.scope x := by first | exact Or.inl rfl | exact Or.inr (Or.inl rfl) | exact Or.inr (Or.inr rfl)) (hd : (x == ("__debug__" : Str)) = false := by decide) (hcd : (x == ("__classdict__" : Str)) = false := by decide)
    (hst : starEach (e :: es) X.env = (false, eval e X.env) :: starEach es X.env := by rfl) (hpl : (backTo pos (starEach es X.env)).any (·.1) = false := by rfl)
    (ht : eval (.Call (.Attribute (.Name x p) m apos) (e :: es) [] pos) X.env = (do
      let ov ← eval (.Name x p) X.env
      standAt apos.atName
      let (f, first) ← holding [ov] (getMethod ov m pl)
      callWith pos f first (backTo pos (starEach (e :: es) X.env)) (backToKw pos (keywordEach [] X.env))) := by rfl) :
    VE ca W X (.Call (.Attribute (.Name x p) m apos) (e :: es) [] pos) (cMP cn i m (fun rs => if rs.length = n then G rs else .no) fv) := by
  obtain ⟨t, pa, sa⟩ := ha
  refine ⟨_, pe_methD (pl := pl) (E := WE W) (pe_var hN hv hd hcd) T.cl hm Fo hr hb (fun σ => passAt tk σ) pa hst hpl ht, fun B F env σ H Q st q => ?_⟩
  show ∃ v, σ[i]? = some (some v) ∧ (∃ a dx fs, v = .ref a ∧ H a = some (.ins C dx fs) ∧ fs.lookup m = none ∧ t σ H fun vs H2 => spV X.K ca n G (v :: vs) H2 Q (WE W σ))
  unfold cMP at q
  split at q
  · rename_i r er
    obtain ⟨v, ev, h⟩ := st.sl i r er
    cases eo : obOf r with
    | none => rw [eo] at q; exact q.elim
    | some o =>
      obtain ⟨y, fs⟩ := o
      rw [eo] at q
      simp only [rsO_some, Rs.bind_ok] at q
      split at q
      · rename_i hy
        obtain ⟨p', rfl, bo⟩ := obOf_ok h eo
        have bo' := bo
        obtain ⟨C', dx, vs, hc, hp, fk⟩ := bo'
        have eC := cls_one (hy.1 ▸ hc) T.nm
        subst eC
        refine ⟨_, ev, p', dx, vs, rfl, hp, fk.none hy.2, ?_⟩
        refine seqA (PostE X.K ca W σ F H Q) sa st q (fun _ _ h => h) (fun h => h) fun rs F1 H1 ws q1 g1 pr => ?_
        split at q1
        · rename_i hl
          obtain ⟨F2, g2, s2, q2⟩ := args_go g1 (Same.refl _) pr
          refine ⟨by rw [List.length_cons, Paired.length pr]; simpa using hl, F2, .bo y fs :: rs.map RV.arg, g2.cfg, st.rg.tb.grow g2, .cons ⟨p', rfl, bo.grow g2.ff g2.hh⟩ q2, ?_⟩
          cases eg : G (.bo y fs :: rs.map RV.arg) with
          | ok r => rw [eg] at q1; exact fun G' H' v gg rr => q1 G' H' v (g2.trans gg) (rr.older g2.hh)
          | ex c gs => rw [eg] at q1; exact fun G' H' cls dx gg x => q1 G' H' cls dx (g2.trans gg) x
          | no => rw [eg] at q1; exact q1
        · exact q1.elim
      · exact q.elim
  · exact q.elim
def mkO (G : List RV → MR) (cn : Str) (rs : List RV) : Rs RV := if (rs.map RV.arg).all RV.pb = true then (match G (.ob true cn [] :: rs.map RV.arg) with
  | .ok x fs .none => .ok (.ob false x fs)
  | _ => .no) else .no
def sAppT (fe fx : VEnv → Rs RV) : VEnv → Out := fun env => (fe env).out env fun r => match r with
  | .ol xs => (fx env).out env fun y => (rsO y.toD).out env fun _ => if xs.length ≤ 1000000 then .nx env else .no
  | _ => .no
end
theorem look_cons (f k : Str) (v : FV) (r : List (Str × FV)) : List.lookup f ((k, v) :: r) = if k = f then some v else List.lookup f r := by
  by_cases z : k = f
  · subst z; simp [List.lookup]
  · have z' : (f == k) = false := by simpa using fun w : f = k => z w.symm
    simp only [List.lookup, z', if_neg z]
theorem look_nil (f : Str) : List.lookup f ([] : List (Str × FV)) = none := rfl
theorem putFV_cons (f k : Str) (v x : FV) (r : List (Str × FV)) : putFV f v ((k, x) :: r) = if k = f then (k, v) :: r else (k, x) :: putFV f v r := rfl
theorem putFV_nil (f : Str) (v : FV) : putFV f v [] = [(f, v)] := rfl
theorem e_fldS (cn : Str) (own : Bool) (i : Nat) (f : Str) (fe : VEnv → Rs RV) (env : VEnv) : sFldS cn own i f fe env = (fe env).out env fun r => match env[i]? with
  | some (some (.ob me x fs)) => if x = cn ∧ fs.length ≤ 900 then (rsO (fvOf own r)).out env fun fv => .nx (env.set i (some (.ob me x (putFV f fv fs)))) else .no
  | _ => .no := rfl
theorem e_fld (cn : Str) (i : Nat) (f : Str) (env : VEnv) : cFld cn i f env = match env[i]? with
  | some (some r) => (rsO (obOf r)).bind fun o => if o.1 = cn then (rsO (o.2.lookup f)).bind fun fv => .ok (fvR fv) else .no
  | _ => .no := rfl
theorem e_obO (me : Bool) (x : Str) (fs : List (Str × FV)) : obOf (.ob me x fs) = some (x, fs) := rfl
theorem e_obB (x : Str) (fs : List (Str × FV)) : obOf (.bo x fs) = some (x, fs) := rfl
theorem e_fvd (y : PyData) : fvR (.d y) = .d y := rfl
theorem e_fvl (ys : List PyData) : fvR (.ol ys) = .bl ys := rfl
theorem e_fvF (r : RV) : fvOf false r = r.toD.map .d := rfl
theorem e_toD (x : PyData) : RV.toD (.d x) = some x := rfl
theorem e_toL (x : List PyData) : RV.toD (.ol x) = some (.list x) := rfl
theorem e_retS (fe : VEnv → Rs RV) (env : VEnv) : sRetS fe env = (fe env).out env fun r => (rsO r.toD).out env fun d => rmO d env := rfl
theorem e_rmO (d : PyData) (x : Str) (fs : List (Str × FV)) (env : VEnv) : rmO d (some (.ob true x fs) :: env) = .rm (some (x, fs)) d := rfl
theorem e_finM (o : Str × List (Str × FV)) (d : PyData) : (Out.rm (some o) d).finM = .ok o.1 o.2 d := rfl
theorem e_finN (x : Str) (fs : List (Str × FV)) (env : VEnv) : (Out.nx (some (.ob true x fs) :: env)).finM = .ok x fs .none := rfl
theorem e_prop (cn : Str) (i : Nat) (G : List RV → Rs RV) (env : VEnv) : cProp cn i G env = match env[i]? with
  | some (some r) => (rsO (obOf r)).bind fun o => if o.1 = cn then okR (G [.bo o.1 o.2]) else .no
  | _ => .no := rfl
theorem e_okR (r : RV) : okR (.ok r) = .ok r := rfl
theorem e_M (cn : Str) (i : Nat) (m : Str) (F : List RV → MR) (fa : VEnv → Rs (List RV)) (env : VEnv) : cM cn i m F fa env = match env[i]? with
  | some (some (RV.ob _ x fs)) => if x = cn ∧ fs.lookup m = none then (fa env).mo env fun rs => mCall i F rs env else .no
  | _ => .no := rfl
theorem e_setM (i : Nat) (fm : VEnv → MO PyData) (env : VEnv) : sSetM i fm env = (fm env).out fun d env' => if i < env'.length then .nx (env'.set i (some (.d d))) else .no := rfl
theorem e_appT (fe fx : VEnv → Rs RV) (env : VEnv) : sAppT fe fx env = (fe env).out env fun r => match r with
  | .ol xs => (fx env).out env fun y => (rsO y.toD).out env fun _ => if xs.length ≤ 1000000 then .nx env else .no
  | _ => .no := rfl
theorem e_arO (me : Bool) (x : Str) (fs : List (Str × FV)) : RV.arg (.ob me x fs) = .bo x fs := rfl
theorem e_boO (me : Bool) (x : Str) (fs : List (Str × FV)) : RV.bor (.ob me x fs) = .bo x fs := rfl
theorem e_mCall (i : Nat) (F : List RV → MR) (rs : List RV) (env : VEnv) : mCall i F rs env = match env[i]? with
  | some (some (RV.ob me x fs)) => if rs.all RV.isN = true then (match F (.ob true x fs :: rs.map RV.arg) with
      | .ok x' fs' d => .ok d (env.set i (some (.ob me x' fs')))
      | .ex x' fs' c gs => .ex c gs (env.set i (some (.ob me x' fs')))
      | .no => .no) else .no
  | _ => .no := rfl
theorem e_MF (i : Nat) (F : List RV → MR) (fa : VEnv → Rs (List RV)) (env : VEnv) : cMF i F fa env = match env[i]? with
  | some (some (RV.ob _ _ _)) => (fa env).mo env fun rs => mCall i F rs env
  | _ => .no := rfl
theorem e_plainD (x : PyData) : RV.isN (.d x) = true := rfl
theorem e_plainO (x : List PyData) : RV.isN (.ol x) = true := rfl
theorem e_putob (i : Nat) (x : Str) (fs : List (Str × FV)) (env : VEnv) : putS i (.ob false x fs) env = if i < env.length then .nx (env.set i (some (.ob false x fs))) else .no := rfl
theorem e_pbD (x : PyData) : RV.pb (.d x) = true := rfl
theorem e_pbB (x : List PyData) : RV.pb (.bl x) = true := rfl
theorem e_mkO (G : List RV → MR) (cn : Str) (rs : List RV) : mkO G cn rs = if (rs.map RV.arg).all RV.pb = true then (match G (.ob true cn [] :: rs.map RV.arg) with
  | .ok x fs .none => .ok (.ob false x fs)
  | _ => .no) else .no := rfl
theorem e_MP (cn : Str) (i : Nat) (m : Str) (G : List RV → Rs RV) (fv : VEnv → Rs (List RV)) (env : VEnv) : cMP cn i m G fv env = match env[i]? with
  | some (some r) => (rsO (obOf r)).bind fun o => if o.1 = cn ∧ o.2.lookup m = none then (fv env).bind fun rs => G (.bo o.1 o.2 :: rs.map RV.arg) else .no
  | _ => .no := rfl
theorem e_fapp (cn : Str) (i : Nat) (f : Str) (fe : VEnv → Rs RV) (env : VEnv) : sFApp cn i f fe env = match env[i]? with
  | some (some (.ob me x fs)) => (match fs.lookup f with
    | some (.ol xs) => if x = cn ∧ xs.length ≤ 1000000 then (fe env).out env fun r => (rsO r.toD).out env fun d => .nx (env.set i (some (.ob me x (putFV f (.ol (xs ++ [d])) fs)))) else .no
    | _ => .no)
  | _ => .no := rfl
theorem e_fvO (xs : List PyData) : fvOf true (.ol xs) = some (.ol xs) := rfl
theorem e_dropM (fm : VEnv → MO PyData) (env : VEnv) : sDropM fm env = (fm env).out fun _ env' => .nx env' := rfl
theorem e_ifM (c : VEnv → MO Bool) (f g : VEnv → Out) (env : VEnv) : sIfM c f g env = (c env).out fun b env' => if b = true then f env' else g env' := rfl
theorem e_retM (fm : VEnv → MO PyData) (env : VEnv) : sRetM fm env = (fm env).out fun d env' => rmO d env' := rfl
theorem e_retNS (env : VEnv) : sRetNS env = rmO .none env := rfl
theorem e_m2 (g : RV → RV → Rs RV) (fm : VEnv → MO PyData) (fb : VEnv → Rs RV) (env : VEnv) : m2 g fm fb env = (fm env).bind fun d env' => (fb env').mo env' fun y => (g (.d d) y).mo env' fun r => match r with
  | .d z => .ok z env'
  | _ => .no := rfl
theorem e_mB (fm : VEnv → MO PyData) (env : VEnv) : mB fm env = (fm env).bind fun d env' => match d with
  | .bool b => .ok b env'
  | _ => .no := rfl
theorem e_mPT (f : VEnv → Rs Bool) (env : VEnv) : mPT f env = (f env).mo env fun b => .ok b env := rfl
theorem e_mNot (f : VEnv → MO Bool) (env : VEnv) : mNot f env = (f env).bind fun b env' => .ok (!b) env' := rfl
theorem e_mOr (f g : VEnv → MO Bool) (env : VEnv) : mOr f g env = (f env).bind fun b env' => if b = true then .ok true env' else g env' := rfl
theorem e_nbo (x : Str) (fs : List (Str × FV)) : RV.nb (.ob false x fs) = .ok (.ob false x fs) := rfl
end VL
namespace VL
open PySem PySem.Spec PyProof.Rows L2
end VL
namespace VL
open PySem PySem.Spec PyProof.Rows L2
end VL
namespace VL
open PySem PySem.Spec PyProof.Rows L2
end VL
namespace VL
open PySem PySem.Spec PyProof.Rows L2
end VL
namespace VL
open PySem PySem.Spec PyProof.Rows L2
end VL
namespace VL
open PySem PySem.Spec PyProof.Rows L2
end VL
namespace VL
open PySem PySem.Spec PyProof.Rows L2
end VL
namespace VL
open PySem PySem.Spec PyProof.Rows L2
end VL
namespace VL
open PySem PySem.Spec PyProof.Rows L2
end VL
namespace VL
open PySem PySem.Spec PyProof.Rows L2
end VL
namespace VL
open PySem PySem.Spec PyProof.Rows L2 GxR
section
variable {X : Cx} {pins : List (Addr × Obj)} {σ : L2.St} {H : Hp} {s : Shared}
theorem code_come {M : Model} {A : Around} {E : Value → Shared → Prop} {env : Env} {c P : Addr} {ps : Array Value} {pos : Pos} {qn : Str} {scope : Scope} {Q : Value → Shared → Prop} (hc : env.code = .ref c) (cd : PySem.W.CodeHd s.heap c P)
    (hP : s.heap.get? P = some { cls := .none, data := .fields ps }) (ht : TriplesOk ps.toList)
    (hq : ∀ v h' tk more, Heap.ExtBut P s.heap h' → s.heap.objs.size ≤ h'.objs.size → h'.get? P = some { cls := .none, data := .fields (ps ++ more) } → TriplesOk (ps ++ more).toList → Q v { s with heap := h', toks := tk }) :
    wpAny M A (genexprCode env pos qn scope) Q E s := by
  cases e : codeAmong pos ps.toList with
  | some v => exact wpAny_genexprCode_hit hc (cd.code hP ht) e (hq v s.heap s.toks #[] (.refl _ _) (Nat.le_refl _) (by simpa using hP) (by simpa using ht))
  | none =>
    refine wpAny_genexprCodeX hc (cd.code hP ht) (cd.tab hP) e fun c2 h2 tk x1 x2 x3 x4 _ x5 _ => ?_
    obtain ⟨_, _, _, _, _, _, _, _, _, _, _, _, _, _, _, _, _, _, _, tr, _⟩ := x4
    exact hq _ h2 tk _ x1 (Nat.le_of_lt (Nat.lt_of_le_of_lt x2 x3)) x5.2 tr
def ItrG (X : Cx) (sB : Shared) (n : Nat) (F : Nat → Value → Prop) (itv : Value) (s2 : Shared) : Prop :=
  ∃ (it : Addr) (fp wr : List Addr) (St : Nat → Heap → Prop) (h2 : Heap) (t2 : Tok), itv = .ref it ∧ s2 = { sB with heap := h2, toks := t2 } ∧ (∀ A' : Around, A'.handled = none → Walks X.prog X.w A' it fp wr n F St) ∧ St 0 h2 ∧
    (∀ b ∈ fp, b < h2.objs.size) ∧ (∀ b ∈ wr, sB.heap.objs.size ≤ b) ∧ (∀ b ∈ fp, sB.heap.objs.size ≤ b ∨ ∀ ps : Array Value, h2.get? b ≠ some { cls := .none, data := .fields ps }) ∧ (∀ b o, sB.heap.get? b = some o → h2.get? b = some o) ∧ sB.heap.objs.size ≤ h2.objs.size
def EltG (X : Cx) (scope : Scope) (x : Str) (elt : Expr) (F : Nat → Value → Prop) (pb : Nat → Bool) (sB : Shared) (P : Addr) : Prop :=
  ∀ (C : Addr) (code : Value) (bi : Addr) (A' : Around) (E' : Value → Shared → Prop) (i : Nat) (v : Value) (s₂ : Shared) (m₂ : Str → Option Value), A'.handled = none → F i v → s₂.heap.Ns C m₂ → m₂ x = some v →
    (∀ b o, b ≠ P → sB.heap.get? b = some o → s₂.heap.get? b = some o) →
    wpAny (model X.prog X.w) A' (eval elt (genEnv scope (cloFrom X.env.cells scope.names []) C code bi X.env)) (fun y s₃ => y = .bool (pb i) ∧ Keeps s₂ s₃) E' s₂
def ReadyG (X : Cx) (pins : List (Addr × Obj)) (σ : L2.St) (H1 : Hp) (P : Addr) (n : Nat) (pb : Nat → Bool) (g : Addr) (s5 : Shared) : Prop :=
  ∃ (fp wr : List Addr) (G : Array GenState → Array GenState → Prop) (F : Nat → Value → Prop) (St : Nat → Shared → Prop), WalksS X.prog X.w X.A.in1 g fp wr G n F St ∧ St 0 s5 ∧ TruthOf X.prog X.w X.A.in1 F pb ∧
    ∀ s', Moved wr G s5 s' → ∃ H2, Tabbed P H1 H2 ∧ Inv X pins σ H2 s'
theorem gen_g {c P : Addr} {elt iter : Expr} {x : Str} {px gpos : Pos} {scope : Scope} {k : Nat} {Q' : Value → Shared → Prop} (hr : Room k X.A) (TB : TabB X.base X.mg c P) (hcode : X.env.code = .ref c) (S : GenS X.env scope x) (hs : ∀ v, genFold iter X.env v = pure v)
    (h : wpAny (model X.prog X.w) X.A (eval iter X.env) (fun xv s1 => wpAny (model X.prog X.w) X.A (pyIter xv) (fun itv s2 => ∃ sB H1 n F pb, Inv X pins σ H1 sB ∧ TabG H1 P ∧ ItrG X sB n F itv s2 ∧ EltG X scope x elt F pb sB P ∧ ∀ g s5, ReadyG X pins σ H1 P n pb g s5 → Q' (.ref g) s5) X.xe s1) X.xe s) :
    wpAny (model X.prog X.w) X.A (eval (.GeneratorExp elt [⟨.Name x px, iter, [], 0⟩] scope gpos) X.env) Q' X.xe s := by
  have dp : X.A.depth < recursionLimit := by
    have := hr.dp
    omega
  refine wpAny_GeneratorExp_walksQ hr.hd S.co (closure_ok S.free) S.cell S.dot S.loc S.kind dp (wpAny_mono h (fun xv s1 h1 => wpAny_mono h1 (fun itv s2 z => ?_) fun _ _ e => e) fun _ _ e => e) hs
  obtain ⟨sB, H1, n, F, pb, I1, ⟨ps, hP, ht⟩, ⟨it, fp, wr, St, h2, t2, rfl, rfl, W, st0, hfp, hwr, hfx, hk, hz2⟩, hel, hQ⟩ := z
  have hPs : sB.heap.get? P = some { cls := .none, data := .fields ps } := I1.hok P _ hP
  have lim : h2.NoLimit := I1.nolimit.keeps hk
  have bk : ∀ b u, X.base.get? b = some u → h2.get? b = some u := fun b u e => hk b u (I1.bk b u e)
  refine ⟨lim, code_come hcode (TB.code.keeps bk) (hk _ _ hPs) ht fun cv h3 tk more hx hz3 hP3 ht3 => ?_⟩
  obtain ⟨bm, ob, b1, b2, b3, b4, b5, b6, b7, b8⟩ := TB.bm
  have nC : cStatics ≠ P := by
    intro q
    obtain ⟨_, ⟨o', es, ep, ho, hd, _⟩, _⟩ := I1.nolimit
    rw [q, hPs] at ho
    injection ho with ho
    rw [← ho] at hd
    cases hd
  have ltC : cStatics < sB.heap.objs.size := by
    obtain ⟨_, q, _⟩ := I1.nolimit
    exact q.lt
  have glob3 : h3.Ns X.env.globals X.mg := by
    rw [I1.ok.glob]
    exact (I1.mod.glob.keeps bk).extBut hx TB.gP
  have lt3 : ∀ {b : Addr} {o : Obj}, sB.heap.get? b = some o → b < h3.objs.size := fun {b o} e => Nat.lt_of_lt_of_le (Nat.lt_of_lt_of_le (Heap.lt_size e) hz2) hz3
  have nwr : ∀ {b : Addr} {o : Obj}, sB.heap.get? b = some o → b ∉ wr := fun {b o} e hb => Nat.lt_irrefl _ (Nat.lt_of_lt_of_le (Heap.lt_size e) (hwr b hb))
  refine wpAny_builtinsFor glob3 b1 b2 (hx _ _ b4 (bk _ _ b5)) b6 b7 b8 ?_
  refine ⟨it, fp, wr, n, F, St, (fun _ => true), (fun i y => y = .bool (pb i)), rfl, W, ?_, fun b hb => Nat.lt_of_lt_of_le (hfp b hb) hz3, lim.extBut hx nC, ?_, ?_, ?_⟩
  · exact (W X.A hr.hd).frame _ _ _ st0 fun b hb u e => hx b u (fun q => by
      rcases hfx b hb with z | z
      · exact Nat.lt_irrefl _ (Nat.lt_of_lt_of_le (q ▸ Heap.lt_size hPs) z)
      · refine z ps ?_
        rw [q]
        exact hk _ _ hPs) e
  · intro q
    exact Nat.lt_irrefl _ (Nat.lt_of_lt_of_le ltC (hwr _ q))
  · intro href hh
    constructor
    · intro A' E' i v s₂ m₂ hA hv hn hm hkk
      simp only [List.forIn_nil]
      exact wpAny_pure ⟨rfl, keeps_refl _⟩
    · intro A' E' i v s₂ m₂ hA hv _ hn hm hkk
      exact hel _ _ _ A' E' i v s₂ m₂ hA hv hn hm fun b o nb e => hkk b (List.mem_range.mpr (lt3 e)) (nwr e) o (hh b o (hx b o nb (hk b o e)))
  · intro g h5 tk5 gs hgb hag hsz5 hk5 W5 hat
    simp only [GxR.passing_true, List.length_range] at W5
    refine hQ g _ ⟨_, _, _, _, _, W5.in4_1, hat, ?_, fun s' hm => ?_⟩
    · intro j y sj Qj Ej hy hQj
      obtain ⟨i, hij, rfl⟩ := hy
      have ij : i = j := by
        obtain ⟨hj, ej⟩ := List.getElem?_eq_some_iff.mp hij
        rw [List.getElem_range] at ej
        exact ej.symm
      rw [ij]
      exact wpAny_truthy_bool hQj
    · have stay : ∀ b o, b ≠ P → sB.heap.get? b = some o → s'.heap.get? b = some o := fun b o nb e => by
        refine hm.heap b o (fun q => ?_) (hk5 b o (hx b o nb (hk b o e)))
        rcases List.mem_cons.mp q with q | q
        · have := lt3 e
          rw [q] at this
          exact Nat.lt_irrefl _ this
        · exact nwr e q
      have tab : s'.heap.get? P = some { cls := .none, data := .fields (ps ++ more) } := by
        refine hm.heap P _ (fun q => ?_) (hk5 P _ hP3)
        rcases List.mem_cons.mp q with q | q
        · have := lt3 hPs
          rw [q] at this
          exact Nat.lt_irrefl _ this
        · exact nwr hPs q
      have J := inv_tab (more := more) (g' := s'.gens) (d' := s'.drawn) (t' := s'.toks) I1 hP stay tab (AllBare.movedS (I1.bare.push hgb) hm)
      rw [sh_eta sB s' hm.os] at J
      exact ⟨_, ⟨⟨_, upd_same, ht3⟩, fun b hb => upd_ne hb⟩, J⟩
end
section
variable {X : Cx} {pins : List (Addr × Obj)} {σ : L2.St} {H : Hp} {s : Shared} {E : Value → Shared → Prop} {Q : Value → Shared → Prop}
theorem itr_str {a : Str} {t : Tok} (q : ∀ itv s2, ItrG X s a.cps.size (SignAt a) itv s2 → Q itv s2) : wpAny (model X.prog X.w) X.A (pyIter (.str a t)) Q E s := by
  refine wpAny_pyIter_str fun o St W hst => q _ _ ?_
  refine ⟨s.heap.objs.size, [s.heap.objs.size], [s.heap.objs.size], St, _, s.toks, rfl, rfl, W, hst, fun b hb => ?_, fun b hb => ?_, fun b hb => .inl ?_, fun b u e => Heap.get?_push_of_some _ e, ?_⟩
  · rw [List.mem_singleton.mp hb, Heap.size_push]
    exact Nat.lt_succ_self _
  · rw [List.mem_singleton.mp hb]
    exact Nat.le_refl _
  · rw [List.mem_singleton.mp hb]
    exact Nat.le_refl _
  · rw [Heap.size_push]
    omega
end
end VL
namespace VL
open PySem PySem.Spec PyProof.Rows L2 GxR
section
variable {X : Cx} {pins : List (Addr × Obj)} {σ : L2.St} {H : Hp}
theorem ld_it {scope : Scope} {x : Str} {cl : List (Str × Addr)} {C : Addr} {code : Value} {bi : Addr} {env : Env} {p : Pos} {M : Model} {A' : Around} {E' : Value → Shared → Prop} {s₂ : Shared} {Q' : Value → Shared → Prop} {m₂ : Str → Option Value} {v : Value} (hkd : scope.kind = .function) (hx : scope.names.lookup x = some .local)
    (hn : s₂.heap.Ns C m₂) (hm : m₂ x = some v) (q : Q' v s₂) (hdb : (x == ("__debug__" : Str)) = false := by decide) : wpAny M A' (eval (.Name x p) (genEnv scope cl C code bi env)) Q' E' s₂ :=
  wpAny_Name (wpAny_loadName_local hkd hx hn hm q) hdb
end
theorem tab_grow {F H H2 F1 H1 : Hp} {ca : CA} {P : Addr} (g : Grow F H F1 H1) (tb : TabOk ca.T F1 H1) (hP : P ∈ ca.T) (h : Tabbed P H1 H2) : Grow F H F1 H2 := by
  obtain ⟨f0, ps, hp, _⟩ := tb P hP
  obtain ⟨⟨ps2, hp2, t2⟩, rest⟩ := h
  have e : H2 = upd H1 P (.tbl ps2) := by
    funext b
    by_cases hb : b = P
    · rw [hb, upd_same, hp2]
    · rw [upd_ne hb, rest b hb]
  rw [e]
  exact g.trans (Grow.table g.cfg hp f0 t2)
theorem tab_g {F1 H1 : Hp} {ca : CA} {P : Addr} (tb : TabOk ca.T F1 H1) (hP : P ∈ ca.T) : TabG H1 P := (tb P hP).2
section
variable {ca : CA}
theorem fn_okT {P : Program} {w : World} {K : PySem.W.Frag} {mg : Str → Option Value} {base : Heap} {x qual : Str} {sd : Stmt} {fA : Addr} {fd : FuncData} {N ps : List Str} {k : Nat} {body : VEnv → Out} (F : Fun K x qual sd fA fd) (S : FnScope N ps (defScope sd))
    (hb : ∀ (A : Around) (outer : List PySem.Env) (s : Shared) (H : Hp) (E : XK), Room k (A.deeper (envOfC qual (defScope sd) s.heap.objs.size fA fd.code)) → Takes (cxOf (L2.CX P w) P w K mg base N qual (defScope sd) fA fd.code A outer s H E) (fun cls dx _ H' => E cls dx H') →
      PassesOwn (model P w) (A.deeper (envOfC qual (defScope sd) s.heap.objs.size fA fd.code)) (envOfC qual (defScope sd) s.heap.objs.size fA fd.code) (cxOf (L2.CX P w) P w K mg base N qual (defScope sd) fA fd.code A outer s H E).xe →
      VSs ca (fun cls dx _ H' => E cls dx H') (cxOf (L2.CX P w) P w K mg base N qual (defScope sd) fA fd.code A outer s H E) (defBody sd) body) : FnOk P w K mg base (L2.CX P w) (k + 1) fA fd ps (spV K ca ps.length (fnD N.length body)) := by
  obtain ⟨oc, od, kV, doc, pm, an, cdv, ct, osl, rfl, lk, hcd⟩ := F.ex
  refine fn_of lk hcd S (fun vs H Q E h => h.1) fun A outer s H vs Q E hr h => ?_
  obtain ⟨hl, G, rs, c, tb, pr, q⟩ := h
  obtain ⟨t, p, sn⟩ := hb A outer s H E hr (takes_of rfl rfl rfl rfl) (passes_of rfl)
  refine ⟨t, p, sn { F := G, H := H } G _ _ H _ (start_ok N c tb pr) ?_⟩
  unfold fnD at q
  generalize body (rs.map some ++ List.replicate (N.length - rs.length) none) = o at q ⊢
  cases o with
  | nx env => exact fun F' σ' H' s st => q F' H' .non st.gr .non
  | rt r => exact fun F' H' v g r => q F' H' v g r
  | rm o d => exact q.elim
  | rp x fs d => exact q.elim
  | ex c fs env => exact fun F' σ' H' cls dx s st x => q F' H' cls dx st.gr x
  | bk env => exact q.elim
  | ct env => exact q.elim
  | no => exact q.elim
end
def spTab (K : PySem.W.Frag) (T : List Addr) : Sp := fun vs H Q E => (∀ P ∈ T, ∃ ps : Array Value, H P = some (.tbl ps) ∧ TriplesOk ps.toList) ∧ spTrue K vs H Q E
def TabsTop (q : Program) (K : PySem.W.Frag) (h : Heap) : Prop := ∀ (x : Str) (e : DefRec) (c P : Addr), (recsOf q).find? (fun e => e.name == x) = some e → PySem.W.tabIn K x = some (c, P) → PySem.W.CodeHd h c P ∧ h.get? P = some { cls := .none, data := .fields #[] }
theorem law_at {l : PySem.W.OpenLaw} {w : World} {K : PySem.W.Frag} {k n : Nat} {x : Str} {mg : Str → Option Value} {fa : Addr} {h : Heap} {fd : FuncData} (hn : n = 63) (cs : List (Addr × Addr)) (hC : ∀ p ∈ cs, PySem.W.CodeHd h p.1 p.2 ∧ h.get? p.2 = some { cls := .none, data := .fields #[] })
    (nT : ∀ p ∈ cs, K.lookup p.2 = none) (hb : ∀ (s : Shared) (u : Value), BindsTo s fd ⟨[u], []⟩ [(x, u)])
    (F : ∀ base : Heap, K.In base → base.Ns mainGlobals mg → (∀ p ∈ cs, TabB base mg p.1 p.2) → FnOk l.prog w K mg base (L2.CX l.prog w) k fa fd [x] (spTab K (cs.map (·.2)))) : LamX.LawAtS l w K (L2.CX l.prog w) k n x mg fa h := by
  refine ⟨fd, cs, spTab K (cs.map (·.2)), fun p hp => (hC p hp).2, nT, fun p hp => (hC p hp).1, hb, fun H a ns hl _ ht hS => ⟨fun P hP => ?_, a, ns, rfl, hS, hn ▸ hl, fun _ => rfl⟩, fun base h1 h2 h3 => F base h1 h2 fun p hp => let z := h3 p hp; ⟨z.code, z.bm, z.gP⟩⟩
  obtain ⟨p, hp, rfl⟩ := List.mem_map.mp hP
  exact ⟨#[], ht p hp, trivial⟩
theorem walk_tab {l : PySem.W.OpenLaw} {n k : Nat} {q : Program} {loose : List Str} {XP : (Str → Option Value) → Heap → Prop} {YP : World → Heap → Prop} {d : DefRec} {K : Params → PySem.W.Frag} {CX : World → CXT} {x : Str}
    (hn : l.most = some n) (hn2 : n ≤ sizeLine) (hdf : d.params.defaults = []) (hr : Room k callerA) (hY : ∀ (w : World) (h : Heap), YP w h → (K w.params).In h)
    (F : ∀ (w : World) (mg : Str → Option Value) (fa : Addr) (h : Heap), YP w h → (K w.params).In h → h.Ns mainGlobals mg → mg d.name = some (.ref fa) → TabsTop q (K w.params) h → LamX.LawAtS l w (K w.params) (CX w) k n x mg fa h)
    (hCX : ∀ (w : World) (H : Hp) (s : Shared) (e : Value) (s' : Shared), CX w [] H s (fun _ _ _ => False) e s' → False) :
    PySem.W.WalkO q loose XP YP l.row.toRowW d [] (fun f vs => PySem.call f vs) := by
  refine Att.attach_callB hn hdf fun w s₀ s₁ mg mb fa o pm cd doc a vs ns G Y ho hd hcd hmg hobj hints hlen hbits hg => ?_
  have KX := hY w _ Y
  have Z := F w mg fa _ Y KX G.T.g hmg fun x e c P he ht => PySem.W.tab_of G.T KX he ht
  obtain ⟨fd, cs, sp, hT, nT, C, hb, hsp, hF⟩ := Z
  exact LamX.law_callTs KX G.T.g G.T.b G.T.builtins G.T.nolimit hg hT nT C G.T.bmain hobj hints (Nat.le_trans hlen hn2) hr hF hb (fun H hH hS => hsp H a ns hlen hbits hH hS) fun H e s' => hCX w H s₁ e s'
theorem genS_by {env : Env} {sc scope : Scope} {L : Addr} {x : Str} (he : env.cells = cellsFrom L sc.names []) (h1 : scope.kind = .function) (h2 : scope.isCoroutine = false) (h3 : ∀ y ∈ scope.names, y.2 ≠ .cell) (h4 : scope.names.lookup (".0" : Str) = some NameKind.local) (h5 : scope.names.lookup x = some .local)
    (h6 : ∀ y ∈ scope.names, y.2 = .free → sc.names.lookup y.1 = some .cell) : GenS env scope x where
  kind := h1
  co := h2
  cell := h3
  dot := h4
  loc := h5
  free := fun y hy e => by
    rw [he]
    exact L2.cell_has (h6 y hy e)
end VL
namespace VL
open PySem PySem.Spec PyProof.Rows L2 GxR
def cM1 (g : Str → RV → Rs RV) (fa fb : VEnv → Rs RV) : VEnv → Rs RV := fun env => (fa env).bind fun x => match x with
  | .d (.str a) => (fb env).bind fun y => g a y
  | _ => .no
def M1S (K : PySem.W.Frag) (ca : CA) (r : V → List V → Hp → VK → Prop) (g : Str → RV → Rs RV) : Prop :=
  ∀ (W : WX) (σ : L2.St) (F0 H0 F H : Hp) (a : Str) (v : V) (y : RV) (Q : VK), Grow F0 H0 F H → RVok K H0 F H v y → PostE K ca W σ F0 H0 Q (g a y) → r (.str a) [v] H Q
theorem snd_M1 {K : PySem.W.Frag} {ca : CA} {W : WX} {fa fb : VEnv → Rs RV} {r : V → List V → Hp → VK → Prop} {g : Str → RV → Rs RV} {ta tb : TE} (hr : M1S K ca r g) (sa : SndE K ca W ta fa) (sb : SndE K ca W tb fb) : SndE K ca W (tM1 r ta tb) (cM1 g fa fb) := by
  intro B F env σ H Q st p
  show ta σ H fun x H1 => (∃ a, x = .str a) ∧ tb σ H1 fun y H2 => r x [y] H2 Q
  refine seqE (PostE K ca W σ F H Q) sa st p (fun _ _ h => h) (fun h => h) fun x F1 H1 v1 p1 g1 q1 => ?_
  cases x with
  | d z =>
    cases z with
    | str a =>
      cases q1
      refine ⟨⟨a, rfl⟩, ?_⟩
      refine seqE (PostE K ca W σ F H Q) sb (st.grow g1) p1 (fun _ _ h => PostX.mono g1 h) (fun h => h) fun y F2 H2 v2 p2 g2 q2 => ?_
      exact hr W σ F H F2 H2 a v2 y Q (g1.trans g2) (q2.older g1.hh) p2
    | _ => exact p1.elim
  | _ => exact p1.elim
def gSplit (a : Str) (y : RV) : Rs RV := match y with
  | .d (.str b) => if (b.length == 0) = false ∧ a.length ≤ 1000000 then .ok (.ol ((Txt.split a b).map .str)) else .no
  | _ => .no
theorem dqa_strs {K : PySem.W.Frag} {F : Hp} : ∀ ys : List Str, DqA K F (ys.map V.str) (ys.map PyData.str)
  | [] => .nil
  | y :: ys => .cons (.str y) (dqa_strs ys)
theorem million_line : 1000000 + 2 ≤ sizeLine := by rw [sizeLine_eq]; decide
theorem s_split {K : PySem.W.Frag} {ca : CA} : M1S K ca (fun x xs H Q => ∃ a b, x = .str a ∧ xs = [.str b] ∧ (b.length == 0) = false ∧ a.length + 2 ≤ sizeLine ∧ rNewStrs (Txt.split a b) H Q) gSplit := by
  intro W σ F0 H0 F H a v y Q gr h p
  unfold gSplit at p
  split at p
  · rename_i b
    cases h
    split at p
    · rename_i hc
      have := million_line
      refine ⟨a, b, rfl, rfl, hc.1, by omega, fun l hl => ?_⟩
      have g2 := Grow.newO gr.cfg (.lst ((Txt.split a b).map V.str)) hl (fun _ z => by cases z)
      exact p _ _ _ (gr.trans g2) ⟨l, _, rfl, none_n gr.hh hl, same_none gr.cfg.sub hl, upd_same, dqa_strs _⟩
    · exact p.elim
  · exact p.elim
def strsD : List PyData → Option (List Str)
  | [] => some []
  | .str x :: xs => (strsD xs).map (x :: ·)
  | _ => none
theorem strs_ok {K : PySem.W.Frag} {F : Hp} : ∀ {xs : List PyData} {vs : List V} {ys : List Str}, DqA K F vs xs → strsD xs = some ys → vs = ys.map V.str
  | [], _, ys, h, e => by cases h; cases e; rfl
  | x :: xs, _, ys, h, e => by
    cases h with
    | cons h1 h2 =>
      cases x with
      | str z =>
        cases h1
        cases e2 : strsD xs with
        | none => simp [strsD, e2] at e
        | some zs =>
          simp only [strsD, e2, Option.map_some, Option.some.injEq] at e
          subst e
          rw [strs_ok h2 e2]
          rfl
      | _ => cases e
theorem strsD_map : ∀ ys : List Str, strsD (ys.map .str) = some ys
  | [] => rfl
  | y :: ys => by
    show (strsD (ys.map .str)).map (y :: ·) = _
    rw [strsD_map ys]
    rfl
def gJoin (a : Str) (y : RV) : Rs RV := (rsO y.qv).bind fun ds => (rsO (strsD ds)).bind fun ys => if (ys.map (·.length)).sum + ys.length * a.length ≤ 1000000 then .ok (.d (.str (Txt.join a ys))) else .no
theorem s_join {K : PySem.W.Frag} {ca : CA} : M1S K ca (fun x xs H Q => ∃ a p, ∃ ys : List Str, x = .str a ∧ xs = [.ref p] ∧ (SqL K H p (ys.map V.str) ∨ SqT K H p (ys.map V.str)) ∧ (ys.map (·.length)).sum + ys.length * a.length ≤ 16777216 ∧ Q (.str (Txt.join a ys)) H) gJoin := by
  intro W σ F0 H0 F H a v y Q gr h p
  unfold gJoin at p
  cases e : y.qv with
  | none => rw [e] at p; exact p.elim
  | some ds =>
    rw [e] at p
    simp only [rsO_some, Rs.bind_ok] at p
    cases e2 : strsD ds with
    | none => rw [e2] at p; exact p.elim
    | some ys =>
      rw [e2] at p
      simp only [rsO_some, Rs.bind_ok] at p
      split at p
      · rename_i hz
        obtain ⟨q, ws, rfl, hq, dq⟩ := qv_ok gr.cfg.sub h e
        have := strs_ok dq e2
        subst this
        exact ⟨a, q, ys, rfl, rfl, .inl hq, by omega, p _ _ _ gr (.str _)⟩
      · exact p.elim
section
variable {ca : CA} {W : WX} {X : Cx} {o e : Expr} {fo fe : VEnv → Rs RV} {apos pos : Pos}
theorem ve_split (ho : VE ca W X o fo) (he : VE ca W X e fe) (hs : starEach [e] X.env = [(false, eval e X.env)] := by rfl) (hbase : attributeBase o "split" X.env (eval o X.env) = eval o X.env := by rfl) (hline : (apos.endLine == pos.line) = true := by rfl) :
    VE ca W X (.Call (.Attribute o "split" apos) [e] [] pos) (cM1 gSplit fo fe) := by
  obtain ⟨ta, pa, sa⟩ := ho
  obtain ⟨tb, pb, sb⟩ := he
  exact ⟨_, pe_split pa pb hs hbase hline, snd_M1 s_split sa sb⟩
theorem ve_join (ho : VE ca W X o fo) (he : VE ca W X e fe) (hs : starEach [e] X.env = [(false, eval e X.env)] := by rfl) (hbase : attributeBase o "join" X.env (eval o X.env) = eval o X.env := by rfl) (hline : (apos.endLine == pos.line) = true := by rfl) :
    VE ca W X (.Call (.Attribute o "join" apos) [e] [] pos) (cM1 gJoin fo fe) := by
  obtain ⟨ta, pa, sa⟩ := ho
  obtain ⟨tb, pb, sb⟩ := he
  exact ⟨_, pe_join pa pb hs hbase hline, snd_M1 s_join sa sb⟩
end
theorem e_M1 {g : Str → RV → Rs RV} {fa fb : VEnv → Rs RV} {env : VEnv} : cM1 g fa fb env = (fa env).bind fun x => match x with
  | .d (.str a) => (fb env).bind fun y => g a y
  | _ => .no := rfl
theorem e_split {a b : Str} : gSplit a (.d (.str b)) = if (b.length == 0) = false ∧ a.length ≤ 1000000 then .ok (.ol ((Txt.split a b).map .str)) else .no := rfl
def PostJs (K : PySem.W.Frag) (ca : CA) (W : WX) (σ : L2.St) (F H : Hp) (Q : Str → Hp → Prop) : Rs Str → Prop
  | .ok out => ∀ F' H', Grow F H F' H' → Q out H'
  | .ex c fs => PostX K ca W σ F H c fs
  | .no => False
section
variable {ca : CA} {W : WX} {X : Cx} {e : Expr} {es : List Expr} {f : VEnv → Rs RV} {fs : List (VEnv → Rs RV)} {pos : Pos}
theorem PostJs.mono {K : PySem.W.Frag} {σ : L2.St} {F H F1 H1 : Hp} {Q : Str → Hp → Prop} {r : Rs Str} (g : Grow F H F1 H1) (h : PostJs K ca W σ F H Q r) : PostJs K ca W σ F1 H1 Q r := by
  cases r with
  | ok out => exact fun F' H' g' => h F' H' (g.trans g')
  | ex c fs => exact PostX.mono g h
  | no => exact h
end
section
variable {X : Cx} {pins : List (Addr × Obj)} {σ : L2.St} {H : Hp}
theorem ld_gl {sB : Shared} {P : Addr} {c : Addr} {scope : Scope} {y : Str} {u : Value} (I : Inv X pins σ H sB) (TB : TabB X.base X.mg c P) (hm : X.mg y = some u) (hkd : scope.kind = .function) (hy : scope.names.lookup y = some .globalImplicit) {cl : List (Str × Addr)} {C : Addr} {code : Value} {bi : Addr} {p : Pos} {A' : Around} {E' : Value → Shared → Prop} {s₂ : Shared}
    {Q' : Value → Shared → Prop} (keep : ∀ b o, b ≠ P → sB.heap.get? b = some o → s₂.heap.get? b = some o) (q : Q' u s₂) (hdb : (y == ("__debug__" : Str)) = false := by decide) : wpAny (model X.prog X.w) A' (eval (.Name y p) (genEnv scope cl C code bi X.env)) Q' E' s₂ := by
  have gl : s₂.heap.Ns mainGlobals X.mg := by
    obtain ⟨o, es, ep, e, r⟩ := I.mod.glob
    exact ⟨o, es, ep, keep _ _ TB.gP (I.bk _ _ e), r⟩
  refine Calls.Name_function_global hkd hy (Calls.loadGlobal_global ?_ hm q) hdb
  show s₂.heap.Ns X.env.globals X.mg
  rw [I.ok.glob]
  exact gl
theorem elt_inC {sB : Shared} {P c : Addr} {scope : Scope} {x y : Str} {a z : Str} {t : Tok} {p1 p2 p3 : Pos} (I : Inv X pins σ H sB) (TB : TabB X.base X.mg c P) (hm : X.mg y = some (.str z t)) (hkd : scope.kind = .function) (hy : scope.names.lookup y = some .globalImplicit) (hx : scope.names.lookup x = some .local)
    (hdb : (y == ("__debug__" : Str)) = false := by decide) (hdb2 : (x == ("__debug__" : Str)) = false := by decide) (hmk : behindInMarks .In (.Name y p2) = false := by with_unfolding_all rfl) :
    EltG X scope x (.Compare (.Name x p1) [.In] [.Name y p2] p3) (SignAt a) (trF (fun b => decide (b ∈ z.cps.toList)) a.cps.toList) sB P := by
  intro C code bi A' E' i v s₂ m₂ hA hv hn hm2 keep
  obtain ⟨b, u, hb, rfl⟩ := hv
  have e : a.cps.toList[i]? = some b := by rw [Array.getElem?_toList]; exact hb
  rw [trF_some e]
  refine wpAny_Compare1 (ld_it hkd hx hn hm2 (ld_gl I TB hm hkd hy keep (PyProof.Rows.in_str ⟨?_, keeps_refl _⟩) hdb) hdb2) hmk
  exact congrArg Value.bool (PySem.StrLaws.found_one z b)
def tAllC (X : Cx) (scope : Scope) (P : Addr) (z : Str) (te : TE) : TE := fun σ H Q => te σ H fun v H1 => ∃ a : Str, v = .str a ∧ TabG H1 P ∧ ∀ H2, Tabbed P H1 H2 → Q (.bl (a.cps.toList.all fun b => decide (b ∈ z.cps.toList))) H2
theorem pe_allC {c P : Addr} {it : Expr} {x y : Str} {z : Str} {t : Tok} {px p pos gpos p1 p2 p3 : Pos} {scope : Scope} {te : TE} {k : Nat} (hr : Room k X.A) (hg : Gl X "all") (hm : X.mg "all" = none) (hb : bootBuiltins "all" = some (.builtin "all")) (TB : TabB X.base X.mg c P) (hcode : X.env.code = .ref c)
    (S : GenS X.env scope x) (hi : PE X it te) (hmz : X.mg y = some (.str z t)) (hy : scope.names.lookup y = some .globalImplicit) (hs : ∀ v, genFold it X.env v = pure v) (hdb : (y == ("__debug__" : Str)) = false := by decide) (hdb2 : (x == ("__debug__" : Str)) = false := by decide)
    (he : starEach [.GeneratorExp (.Compare (.Name x p1) [.In] [.Name y p2] p3) [⟨.Name x px, it, [], 0⟩] scope gpos] X.env = (false, eval (.GeneratorExp (.Compare (.Name x p1) [.In] [.Name y p2] p3) [⟨.Name x px, it, [], 0⟩] scope gpos) X.env) :: starEach [] X.env := by rfl) :
    PE X (.Call (.Name "all" p) [.GeneratorExp (.Compare (.Name x p1) [.In] [.Name y p2] p3) [⟨.Name x px, it, [], 0⟩] scope gpos] [] pos) (tAllC X scope P z te) := by
  refine ⟨fun pins s σ H Q I h => wpAny_Call_Name_kw (ld_blt I hg hm hb (PyProof.Rows.callWith_builtin1 ?_ he (by rfl)))⟩
  rw [he]
  show wpAny _ _ (spliced ((false, eval (.GeneratorExp _ _ scope gpos) X.env) :: backTo pos (starEach [] X.env))) _ _ s
  refine Calls.spliced_cons (gen_g (pins := pins) (σ := σ) hr TB hcode S hs (thn (hi.run pins s σ H _ I h) fun xv s1 w => ?_))
  obtain ⟨v, H1, I1, r1, a, rfl, tg, hq⟩ := w
  obtain ⟨tk, rfl⟩ := _root_.id r1
  refine itr_str fun itv s2 itr => ⟨s1, H1, a.cps.size, _, _, I1, tg, itr, elt_inC I1 TB hmz S.kind hy S.loc hdb hdb2, fun g s5 rdy => ?_⟩
  obtain ⟨fp, wr, G, F, St, W, hst, htr, hI⟩ := rdy
  refine Calls.spliced_nil (call_all_walkS (W.self 0 _ _ _ hst ⟨g, fp, wr, G, _, F, St, _, rfl, W, hst, htr, fun s' hmv => ?_⟩))
  obtain ⟨H2, hT, J⟩ := hI s' hmv
  refine ⟨.bl _, H2, J, rfl, ?_⟩
  have e : a.cps.size = a.cps.toList.length := by simp
  rw [e, all_trF]
  exact hq H2 hT
end
def cAllC (z : Str) (f : VEnv → Rs RV) : VEnv → Rs RV := fun env => (f env).bind fun r => match r with
  | .d (.str a) => .ok (.d (.bool (a.cps.toList.all fun b => decide (b ∈ z.cps.toList))))
  | _ => .no
section
variable {ca : CA} {W : WX} {X : Cx}
theorem ve_allC {c P : Addr} {it : Expr} {x y : Str} {z : Str} {t : Tok} {f : VEnv → Rs RV} {px p pos gpos p1 p2 p3 : Pos} {scope : Scope} {k : Nat} (hr : Room k X.A) (hg : Gl X "all") (hm : X.mg "all" = none) (hb : bootBuiltins "all" = some (.builtin "all")) (TB : TabB X.base X.mg c P) (hP : P ∈ ca.T) (hcode : X.env.code = .ref c)
    (S : GenS X.env scope x) (hi : VE ca W X it f) (hmz : X.mg y = some (.str z t)) (hy : scope.names.lookup y = some .globalImplicit) (hs : ∀ v, genFold it X.env v = pure v) (hdb : (y == ("__debug__" : Str)) = false := by decide) (hdb2 : (x == ("__debug__" : Str)) = false := by decide)
    (he : starEach [.GeneratorExp (.Compare (.Name x p1) [.In] [.Name y p2] p3) [⟨.Name x px, it, [], 0⟩] scope gpos] X.env = (false, eval (.GeneratorExp (.Compare (.Name x p1) [.In] [.Name y p2] p3) [⟨.Name x px, it, [], 0⟩] scope gpos) X.env) :: starEach [] X.env := by rfl) :
    VE ca W X (.Call (.Name "all" p) [.GeneratorExp (.Compare (.Name x p1) [.In] [.Name y p2] p3) [⟨.Name x px, it, [], 0⟩] scope gpos] [] pos) (cAllC z f) := by
  obtain ⟨te, pe, se⟩ := hi
  refine ⟨_, pe_allC hr hg hm hb TB hcode S pe hmz hy hs hdb hdb2 he, fun B F env σ H Q st q => ?_⟩
  show te σ H fun v H1 => ∃ a : Str, v = .str a ∧ TabG H1 P ∧ ∀ H2, Tabbed P H1 H2 → Q (.bl (a.cps.toList.all fun b => decide (b ∈ z.cps.toList))) H2
  refine seqE (PostE X.K ca W σ F H Q) se st q (fun _ _ h => h) (fun h => h) fun r F1 H1 v1 q1 g1 d1 => ?_
  cases r with
  | d w =>
    cases w with
    | str a =>
      cases d1
      have tb := st.rg.tb.grow g1
      have q1 : PostE X.K ca W σ F H Q (.ok (.d (.bool (a.cps.toList.all fun b => decide (b ∈ z.cps.toList))))) := q1
      exact ⟨a, rfl, tab_g tb hP, fun H2 hT => q1 F1 H2 _ (tab_grow g1 tb hP hT) (.bl _)⟩
    | _ => exact q1.elim
  | _ => exact q1.elim
end
theorem e_allC {z : Str} {f : VEnv → Rs RV} {env : VEnv} : cAllC z f env = (f env).bind fun r => match r with
  | .d (.str a) => .ok (.d (.bool (a.cps.toList.all fun b => decide (b ∈ z.cps.toList))))
  | _ => .no := rfl
def GTup (K : PySem.W.Frag) (mg : Str → Option Value) (x : Str) (ds : List PyData) : Prop := ∃ a : Addr, mg x = some (.ref a) ∧ ∀ F : Hp, Dq K F (.ref a) (.tuple ds)
theorem dq_strs {K : PySem.W.Frag} {T : Addr} {n : Nat} {its : Array Value} {sl : Array (Option Value)} {ys : List Str} (l : K.lookup T = some ⟨.type "tuple", none, .seq its n, sl⟩) (hz : its.size ≤ 1000) (hv : Vals (ys.map V.str) its.toList) (F : Hp) : Dq K F (.ref T) (.tuple (ys.map .str)) :=
  .tup ⟨.inr ⟨_, _, _, l, rfl, rfl, Nat.le_trans hz (Nat.le_of_lt (small1000 (Nat.le_refl _))), hv⟩, .inr ⟨_, l, rfl⟩⟩ (dqa_strs ys)
theorem ve_gtup {ca : CA} {W : WX} {X : Cx} {x : Str} {ds : List PyData} {pos : Pos} (hg : Gl X x) (h : GTup X.K X.mg x ds) (hd : (x == ("__debug__" : Str)) = false := by decide) : VE ca W X (.Name x pos) (cC (.tuple ds)) := by
  obtain ⟨a, hm, q⟩ := h
  exact ⟨_, pe_glob hg hm (v := .ref a) rfl hd, fun _ _ _ _ _ _ st p => p _ _ _ (Grow.refl st.cfg) (q _)⟩
section
variable {ca : CA} {W : WX} {X : Cx}
theorem snd_make {cn : Str} {C : Addr} {n : Nat} {G : List RV → MR} {fv : VEnv → Rs (List RV)} {t : TA} (hnm : ClsNm X.K cn C) (sa : SndA X.K ca W t fv) :
    SndE X.K ca W (fun σ H Q => t σ H fun vs H1 => ∀ x dx, H1 x = none → H1 dx = none → dx ≠ x → spM X.K ca n G (.ref x :: (vs ++ [])) (upd (upd H1 dx (.own x)) x (.ins C dx [])) (fun v H2 => v = .non ∧ Q (.ref x) H2) (fun _ _ _ => False)) (cA (mkO (fun rs => if rs.length = n then G rs else .no) cn) fv) := by
  intro B F env σ H Q st q
  show t σ H fun vs H1 => ∀ x dx, H1 x = none → H1 dx = none → dx ≠ x → spM X.K ca n G (.ref x :: (vs ++ [])) (upd (upd H1 dx (.own x)) x (.ins C dx [])) (fun v H2 => v = .non ∧ Q (.ref x) H2) (fun _ _ _ => False)
  refine seqA (PostE X.K ca W σ F H Q) sa st q (fun _ _ h => h) (fun h => h) fun rs F1 H1 vs q1 g1 pr => ?_
  intro x dx nx ndx hne
  rw [List.append_nil]
  unfold mkO at q1
  split at q1
  · rename_i hp
    simp only [List.length_cons, List.length_map] at q1
    split at q1
    · rename_i x' fs' eG
      split at eG
      · rename_i hn
        obtain ⟨F2, g2, s2, q2⟩ := args_go g1 (Same.refl _) pr
        have nx' : (upd H1 dx (.own x)) x = none := by rw [upd_ne (Ne.symm hne)]; exact nx
        have g3 := Grow.newO g2.cfg (.own x) ndx (fun _ z => by cases z)
        have g4 := Grow.newO g3.cfg (.ins C dx []) nx' (fun _ z => by cases z)
        have hpb := List.all_eq_true.mp hp
        have q3 : Paired (fun v r => RVok X.K (upd H1 dx (.own x)) F2 (upd (upd H1 dx (.own x)) x (.ins C dx [])) v r) vs (rs.map RV.arg) := by
          have go : ∀ {vs : List V} {ss : List RV}, (∀ r ∈ ss, r.pb = true) → Paired (fun v r => RVok X.K H1 F2 H1 v r) vs ss → Paired (fun v r => RVok X.K (upd H1 dx (.own x)) F2 (upd (upd H1 dx (.own x)) x (.ins C dx [])) v r) vs ss := by
            intro vs ss hs h
            induction h with
            | nil => exact .nil
            | @cons v r vs ss h1 _ ih =>
              refine .cons ?_ (ih fun r hr => hs r (List.mem_cons_of_mem _ hr))
              have := hs r List.mem_cons_self
              cases r with
              | d y => exact h1
              | bl ys => obtain ⟨a, ws, ev, h2, q4⟩ := h1; exact ⟨a, ws, ev, (g3.trans g4).hh _ _ h2, q4⟩
              | _ => cases this
          exact go hpb q2
        refine ⟨by rw [List.length_cons, Paired.length pr, hn], { F := F2, H := upd H1 dx (.own x), me := x }, F2, RV.ob true cn [] :: rs.map RV.arg, stMB (B := { F := F2, H := upd H1 dx (.own x), me := x }) g4 (((st.rg.tb.grow g2).grow g3).grow g4) ⟨C, dx, [], hnm, upd_same, nx', same_none g2.cfg.sub nx, .nil, .nil⟩ q3 hp (fun j r a hj o hv => ?_), ?_⟩
        · have get : ∀ {vs : List V} {ss : List RV} {k : Nat} {r : RV}, Paired (fun v r => RVok X.K H1 F2 H1 v r) vs ss → ss[k]? = some r → ∃ v, vs[k]? = some v ∧ RVok X.K H1 F2 H1 v r := by
            intro vs ss k r h
            induction h generalizing k with
            | nil => intro e; simp at e
            | cons h1 h2 ih => intro e; cases k with
              | zero => simp at e; subst e; exact ⟨_, rfl, h1⟩
              | succ k => obtain ⟨v, q1, q2⟩ := ih (k := k) (by simpa using e); exact ⟨v, by simpa using q1, q2⟩
          obtain ⟨v, hv', rv⟩ := get q2 hj
          rw [hv] at hv'
          cases hv'
          have := hpb r (List.mem_of_getElem? hj)
          cases r with
          | d y => cases o
          | bl ys => obtain ⟨a', ws, ev, h2, q4⟩ := rv; cases ev; exact ⟨_, g3.hh _ _ h2⟩
          | _ => cases this
        rw [eG]
        intro G' H' v gg dv tb ob
        cases dv
        refine ⟨rfl, q1 G' H' _ ((g2.trans g3).trans gg) ⟨x, rfl, ?_⟩⟩
        obtain ⟨C', dx', us, c, h1, n0, f0, fo, nd⟩ := ob
        refine ⟨C', dx', us, c, h1, none_n g1.hh nx, f0, FOk.to (Same.refl _) fo fun q' _ ws n f l => ⟨?_, f, l⟩, nd⟩
        have n : (upd H1 dx (.own x)) q' = none := n
        have : q' ≠ dx := fun w => by rw [w, upd_same] at n; cases n
        rw [upd_ne this] at n
        exact none_n g1.hh n
      · cases eG
    · exact q1.elim
  · exact q1.elim
theorem ve_make0 {cn : Str} {C f : Addr} {fd : FuncData} {ps : List Str} {k n : Nat} {G : List RV → MR} {p pos : Pos} (M : Mk X.K C f) (hnm : ClsNm X.K cn C) (Fo : FnOk X.prog X.w X.K X.mg X.base (L2.CX X.prog X.w) k f fd ps (spM X.K ca n G)) (hr : Room (k + 1) X.A) (hg : Gl X cn) (hm : X.mg cn = some (.ref C)) (hb : Binds X.K fd ps []) (tk : Takes X W)
    (hdb : (cn == ("__debug__" : Str)) = false := by decide) : VE ca W X (.Call (.Name cn p) [] [] pos) (cA (mkO (fun rs => if rs.length = n then G rs else .no) cn) aN) := by
  refine ⟨_, pe_make0 (dvs := []) (ds := []) (E := fun _ _ _ => False) M Fo hr hg hm hb .nil (passes_call tk fun _ _ _ _ z => z.elim) hdb, ?_⟩
  exact snd_make hnm (t := tNil) fun B F env σ H Q st q => q F H [] (Grow.refl st.gr.cfg) .nil
end
end VL
namespace VL
open PySem PySem.Spec PyProof.Rows L2
def sgL (x : Str) : List PyData := x.cps.toList.map fun c => .str ⟨#[c]⟩
theorem jw_sgn {G : Hp} (x : Str) : JWalk (Its x) G (x.cps.toList.map fun c => V.str ⟨#[c]⟩) where
  go := fun i H _ hi => by
    have hi : i < x.cps.size := by simpa using hi
    exact hi
  yld := fun i H v H' _ y hi => by
    obtain ⟨e, c, hc, rfl⟩ := y
    refine ⟨e, ?_⟩
    rw [List.getElem?_map, Array.getElem?_toList, hc]
    rfl
  stop := fun H _ => by show x.cps.size ≤ _; simp
theorem DqA.sgs {K : PySem.W.Frag} {F : Hp} : ∀ (cs : List Nat), DqA K F (cs.map fun c => V.str ⟨#[c]⟩) (cs.map fun c => PyData.str ⟨#[c]⟩)
  | [] => .nil
  | c :: cs => .cons (.str _) (DqA.sgs cs)
def gSg : RV → Rs (List PyData)
  | .d (.str x) => .ok (sgL x)
  | _ => .no
def iSg (fe : VEnv → Rs RV) : VEnv → Rs (List PyData) := fun env => (fe env).bind gSg
section
variable {ca : CA} {W : WX} {X : Cx} {e : Expr} {fa : VEnv → Rs RV}
theorem vi_sg {tg : Expr} (h : VE ca W X e fa) : VI ca W X tg e (iSg fa) := by
  obtain ⟨t, p, s⟩ := h
  refine ⟨_, pi_str p, fun B F env σ H R st q => ?_⟩
  show t σ H fun v H1 => ∃ x, v = V.str x ∧ R (Its x) H1
  refine seqE (PostI X.K ca W σ F H R) s st q (fun _ _ h => h) (fun h => h) fun r F1 H1 v p1 g1 q1 => ?_
  cases r with
  | d x =>
    cases x with
    | str x =>
      cases q1
      exact ⟨x, rfl, p1 _ F1 H1 _ g1 (DqA.sgs x.cps.toList) (jw_sgn x)⟩
    | _ => exact p1.elim
  | _ => exact p1.elim
end
end VL
namespace My
open PySem PySem.Spec PyProof.Rows L2 VL TL
theorem VT : ((((((((type_of% @e_nil ∧ type_of% @e_seq) ∧ (type_of% @e_fz ∧ type_of% @e_bk)) ∧ ((type_of% @e_ct ∧ type_of% @e_ret) ∧ (type_of% @e_retN ∧ type_of% @e_drop))) ∧ (((type_of% @e_set ∧ type_of% @e_if) ∧ (type_of% @e_for ∧ type_of% @e_cC)) ∧ ((type_of% @e_c2 ∧ type_of% @e_c1) ∧ (type_of% @e_cA ∧ (type_of% @e_aN ∧ type_of% @e_aC))))) ∧ ((((type_of% @e_cB ∧ type_of% @e_asB) ∧ (type_of% @e_bNot ∧ type_of% @e_bAnd)) ∧ ((type_of% @e_bOr ∧ type_of% @e_vAnd) ∧ (type_of% @e_vOr ∧ (type_of% @e_vNot ∧ type_of% @e_vIf)))) ∧ (((type_of% @e_bYes ∧ type_of% @e_iL) ∧ (type_of% @e_iT ∧ type_of% @e_iLb)) ∧ ((type_of% @e_iR ∧ type_of% @e_gL1) ∧ (type_of% @e_gL2 ∧ (type_of% @e_gL3 ∧ type_of% @e_gT)))))) ∧ (((((type_of% @e_gLb1 ∧ type_of% @e_gLb2) ∧ (type_of% @e_gLb3 ∧ type_of% @e_gLb4)) ∧ ((type_of% @e_nb1 ∧ type_of% @e_nb2) ∧ (type_of% @e_bor1 ∧ type_of% @e_bor2))) ∧ (((type_of% @e_bor3 ∧ type_of% @e_bor4) ∧ (type_of% @e_arg1 ∧ type_of% @e_arg2)) ∧ ((type_of% @e_arg3 ∧ type_of% @e_arg4) ∧ (type_of% @e_putd ∧ (type_of% @e_puto ∧ type_of% @e_toD1))))) ∧ ((((type_of% @e_toD2 ∧ type_of% @e_allD0) ∧ (type_of% @e_allD1 ∧ type_of% @e_allD2)) ∧ ((type_of% @e_gTupl ∧ type_of% @e_gList) ∧ (type_of% @e_tgnm ∧ (type_of% @e_tgtp ∧ type_of% @e_tg0)))) ∧ (((type_of% @e_tg1 ∧ type_of% @e_sq1) ∧ (type_of% @e_sq2 ∧ type_of% @e_sq3)) ∧ ((type_of% @e_sq4 ∧ type_of% @e_sq5) ∧ (type_of% @e_qv2 ∧ (type_of% @e_qv3 ∧ type_of% @e_qv4))))))) ∧ ((((((type_of% @e_qv5 ∧ type_of% @e_data1) ∧ (type_of% @e_data2 ∧ type_of% @e_data3)) ∧ ((type_of% @e_okI ∧ type_of% @e_okB) ∧ (type_of% @e_i2 ∧ type_of% @e_sub))) ∧ (((type_of% @e_mul ∧ type_of% @e_mod) ∧ (type_of% @e_div ∧ type_of% @e_pow)) ∧ ((type_of% @e_lt ∧ type_of% @e_le) ∧ (type_of% @e_gt ∧ (type_of% @e_ge ∧ type_of% @e_neg))))) ∧ ((((type_of% @e_addI ∧ type_of% @e_addS) ∧ (type_of% @e_addT ∧ type_of% @e_addL1)) ∧ ((type_of% @e_addL2 ∧ type_of% @e_addL3) ∧ (type_of% @e_addL4 ∧ (type_of% @e_addL5 ∧ type_of% @e_addL6)))) ∧ (((type_of% @e_addL7 ∧ type_of% @e_addL8) ∧ (type_of% @e_addL9 ∧ type_of% @e_eq)) ∧ ((type_of% @e_ne ∧ type_of% @e_in) ∧ (type_of% @e_notIn ∧ (type_of% @e_inT ∧ type_of% @e_inT2)))))) ∧ (((((type_of% @e_inL1 ∧ type_of% @e_inL2) ∧ (type_of% @e_inL3 ∧ type_of% @e_is)) ∧ ((type_of% @e_isNot ∧ type_of% @e_isN1) ∧ (type_of% @e_isN2 ∧ type_of% @e_isN3))) ∧ (((type_of% @e_isN4 ∧ type_of% @e_isN5) ∧ (type_of% @e_isN6 ∧ type_of% @e_isN7)) ∧ ((type_of% @e_ixT ∧ type_of% @e_ixL) ∧ (type_of% @e_ixO ∧ (type_of% @e_ixB ∧ type_of% @e_ixSc))))) ∧ ((((type_of% @e_lenT ∧ type_of% @e_lenL) ∧ (type_of% @e_lenO ∧ type_of% @e_lenB)) ∧ ((type_of% @e_lenSc ∧ type_of% @e_lenS) ∧ (type_of% @e_tupT ∧ (type_of% @e_tupL ∧ type_of% @e_tupO)))) ∧ (((type_of% @e_tupB ∧ type_of% @e_lisT) ∧ (type_of% @e_lisL ∧ type_of% @e_lisO)) ∧ ((type_of% @e_lisB ∧ type_of% @e_min2) ∧ (type_of% @e_max2 ∧ (type_of% @e_any ∧ type_of% @e_all)))))))) ∧ (((((((type_of% @e_sum ∧ type_of% @e_sorted) ∧ (type_of% @e_rev ∧ type_of% @e_sl)) ∧ ((type_of% @e_oN ∧ type_of% @e_isi) ∧ (type_of% @e_lc ∧ type_of% @e_wipe0))) ∧ (((type_of% @e_wipe1 ∧ type_of% @e_iA) ∧ (type_of% @e_iAb ∧ type_of% @e_gAq1)) ∧ ((type_of% @e_gAq2 ∧ type_of% @e_gAq3) ∧ (type_of% @e_gAqb1 ∧ (type_of% @e_gAqb2 ∧ type_of% @e_gAqb3))))) ∧ ((((type_of% @e_gAqb4 ∧ type_of% @e_no) ∧ (type_of% @e_cCh ∧ type_of% @e_cChI)) ∧ ((type_of% @e_aug ∧ type_of% @e_decT) ∧ (type_of% @e_decF ∧ (type_of% @e_cDispS ∧ type_of% @e_cDT)))) ∧ (((type_of% @e_cDK ∧ type_of% @e_cDisp1) ∧ (type_of% @e_storeA ∧ type_of% @e_stR1)) ∧ ((type_of% @e_stR2 ∧ type_of% @e_stR3) ∧ (type_of% @e_sd1 ∧ (type_of% @e_keyD1 ∧ type_of% @e_keyD2)))))) ∧ (((((type_of% @e_keyTD ∧ type_of% @e_intsD) ∧ (type_of% @e_intsD0 ∧ type_of% @e_borT)) ∧ ((type_of% @e_borT2 ∧ type_of% @e_borK) ∧ (type_of% @e_borK2 ∧ type_of% @e_argT))) ∧ (((type_of% @e_argT2 ∧ type_of% @e_argK) ∧ (type_of% @e_argK2 ∧ type_of% @e_nbT)) ∧ ((type_of% @e_nbK ∧ type_of% @e_putT) ∧ (type_of% @e_putK ∧ (type_of% @e_gAt1 ∧ type_of% @e_gAt2))))) ∧ ((((type_of% @e_gAt3 ∧ type_of% @e_gAt4) ∧ (type_of% @e_gGetDK ∧ type_of% @e_gGetDT)) ∧ ((type_of% @e_gIxD ∧ type_of% @e_gInD) ∧ (type_of% @e_gNotInD ∧ (type_of% @e_cGet1 ∧ type_of% @e_cGet2)))) ∧ (((type_of% @e_dk1 ∧ type_of% @e_dk2) ∧ (type_of% @e_dk3 ∧ type_of% @e_dk4)) ∧ ((type_of% @e_dt1 ∧ type_of% @e_dt2) ∧ (type_of% @e_del ∧ (type_of% @atI_zero ∧ type_of% @e_at1))))))) ∧ ((((((type_of% @e_at2 ∧ type_of% @e_at3) ∧ (type_of% @e_at4 ∧ type_of% @e_at5)) ∧ ((type_of% @e_at6 ∧ type_of% @e_at7) ∧ (type_of% @e_at8 ∧ type_of% @e_at9))) ∧ (((type_of% @e_atm ∧ type_of% @e_V) ∧ (type_of% @e_retV ∧ type_of% @e_unp)) ∧ ((type_of% @e_app ∧ type_of% @e_store) ∧ (type_of% @e_fzE ∧ (type_of% @rsO_some ∧ type_of% @Rs.bind_ok))))) ∧ ((((type_of% @Rs.bind_no ∧ type_of% @Rs.out_ok) ∧ (type_of% @Out.then_nx ∧ type_of% @Out.then_rt)) ∧ ((type_of% @Out.then_ct ∧ type_of% @Out.then_bk) ∧ (type_of% @fin_rt ∧ (type_of% @fin_nx ∧ type_of% @Bool.false_eq_true)))) ∧ (((type_of% @Bool.not_true ∧ type_of% @Bool.not_false) ∧ (type_of% @and_self ∧ type_of% @true_and)) ∧ ((type_of% @and_true ∧ type_of% @sh_int) ∧ (type_of% @sh_bool ∧ (type_of% @sh_none ∧ type_of% @sh_tup)))))) ∧ (((((type_of% @sh_lst ∧ type_of% @eqv_int) ∧ (type_of% @kitB_ll ∧ type_of% @kitB_lt)) ∧ ((type_of% @kitB_tt ∧ type_of% @kitB_tl) ∧ (type_of% @kitB_ii ∧ (type_of% @tyD_list ∧ type_of% @tyD_int)))) ∧ (((type_of% @Bool.true_and ∧ type_of% @Bool.false_and) ∧ (type_of% @Bool.and_true ∧ type_of% @Bool.and_false)) ∧ ((type_of% @Bool.or_true ∧ type_of% @Bool.true_or) ∧ (type_of% @Bool.false_or ∧ (type_of% @Bool.or_false ∧ type_of% @Bool.and_self))))) ∧ ((((type_of% @Bool.or_self ∧ type_of% @e_cAK) ∧ (type_of% @e_andB ∧ type_of% @e_orB)) ∧ ((type_of% @e_andR ∧ type_of% @e_orR) ∧ (type_of% @tyD_tuple ∧ (type_of% @eqv_bool ∧ type_of% @eqv_none)))) ∧ (((type_of% @tyD_bool ∧ type_of% @tyD_str) ∧ (type_of% @tyD_none ∧ type_of% @kitB_bb)) ∧ ((type_of% @kitB_nb ∧ type_of% @kitB_bi) ∧ (type_of% @kitB_ib ∧ (type_of% @kitB_nl ∧ type_of% @kitB_nt))))))))) := ⟨⟨⟨⟨⟨⟨⟨⟨@e_nil, @e_seq⟩, ⟨@e_fz, @e_bk⟩⟩, ⟨⟨@e_ct, @e_ret⟩, ⟨@e_retN, @e_drop⟩⟩⟩, ⟨⟨⟨@e_set, @e_if⟩, ⟨@e_for, @e_cC⟩⟩, ⟨⟨@e_c2, @e_c1⟩, ⟨@e_cA, ⟨@e_aN, @e_aC⟩⟩⟩⟩⟩, ⟨⟨⟨⟨@e_cB, @e_asB⟩, ⟨@e_bNot, @e_bAnd⟩⟩, ⟨⟨@e_bOr, @e_vAnd⟩, ⟨@e_vOr, ⟨@e_vNot, @e_vIf⟩⟩⟩⟩, ⟨⟨⟨@e_bYes, @e_iL⟩, ⟨@e_iT, @e_iLb⟩⟩, ⟨⟨@e_iR, @e_gL1⟩, ⟨@e_gL2, ⟨@e_gL3, @e_gT⟩⟩⟩⟩⟩⟩, ⟨⟨⟨⟨⟨@e_gLb1, @e_gLb2⟩, ⟨@e_gLb3, @e_gLb4⟩⟩, ⟨⟨@e_nb1, @e_nb2⟩, ⟨@e_bor1, @e_bor2⟩⟩⟩, ⟨⟨⟨@e_bor3, @e_bor4⟩, ⟨@e_arg1, @e_arg2⟩⟩, ⟨⟨@e_arg3, @e_arg4⟩, ⟨@e_putd, ⟨@e_puto, @e_toD1⟩⟩⟩⟩⟩, ⟨⟨⟨⟨@e_toD2, @e_allD0⟩, ⟨@e_allD1, @e_allD2⟩⟩, ⟨⟨@e_gTupl, @e_gList⟩, ⟨@e_tgnm, ⟨@e_tgtp, @e_tg0⟩⟩⟩⟩, ⟨⟨⟨@e_tg1, @e_sq1⟩, ⟨@e_sq2, @e_sq3⟩⟩, ⟨⟨@e_sq4, @e_sq5⟩, ⟨@e_qv2, ⟨@e_qv3, @e_qv4⟩⟩⟩⟩⟩⟩⟩, ⟨⟨⟨⟨⟨⟨@e_qv5, @e_data1⟩, ⟨@e_data2, @e_data3⟩⟩, ⟨⟨@e_okI, @e_okB⟩, ⟨@e_i2, @e_sub⟩⟩⟩, ⟨⟨⟨@e_mul, @e_mod⟩, ⟨@e_div, @e_pow⟩⟩, ⟨⟨@e_lt, @e_le⟩, ⟨@e_gt, ⟨@e_ge, @e_neg⟩⟩⟩⟩⟩, ⟨⟨⟨⟨@e_addI, @e_addS⟩, ⟨@e_addT, @e_addL1⟩⟩, ⟨⟨@e_addL2, @e_addL3⟩, ⟨@e_addL4, ⟨@e_addL5, @e_addL6⟩⟩⟩⟩, ⟨⟨⟨@e_addL7, @e_addL8⟩, ⟨@e_addL9, @e_eq⟩⟩, ⟨⟨@e_ne, @e_in⟩, ⟨@e_notIn, ⟨@e_inT, @e_inT2⟩⟩⟩⟩⟩⟩, ⟨⟨⟨⟨⟨@e_inL1, @e_inL2⟩, ⟨@e_inL3, @e_is⟩⟩, ⟨⟨@e_isNot, @e_isN1⟩, ⟨@e_isN2, @e_isN3⟩⟩⟩, ⟨⟨⟨@e_isN4, @e_isN5⟩, ⟨@e_isN6, @e_isN7⟩⟩, ⟨⟨@e_ixT, @e_ixL⟩, ⟨@e_ixO, ⟨@e_ixB, @e_ixSc⟩⟩⟩⟩⟩, ⟨⟨⟨⟨@e_lenT, @e_lenL⟩, ⟨@e_lenO, @e_lenB⟩⟩, ⟨⟨@e_lenSc, @e_lenS⟩, ⟨@e_tupT, ⟨@e_tupL, @e_tupO⟩⟩⟩⟩, ⟨⟨⟨@e_tupB, @e_lisT⟩, ⟨@e_lisL, @e_lisO⟩⟩, ⟨⟨@e_lisB, @e_min2⟩, ⟨@e_max2, ⟨@e_any, @e_all⟩⟩⟩⟩⟩⟩⟩⟩, ⟨⟨⟨⟨⟨⟨⟨@e_sum, @e_sorted⟩, ⟨@e_rev, @e_sl⟩⟩, ⟨⟨@e_oN, @e_isi⟩, ⟨@e_lc, @e_wipe0⟩⟩⟩, ⟨⟨⟨@e_wipe1, @e_iA⟩, ⟨@e_iAb, @e_gAq1⟩⟩, ⟨⟨@e_gAq2, @e_gAq3⟩, ⟨@e_gAqb1, ⟨@e_gAqb2, @e_gAqb3⟩⟩⟩⟩⟩, ⟨⟨⟨⟨@e_gAqb4, @e_no⟩, ⟨@e_cCh, @e_cChI⟩⟩, ⟨⟨@e_aug, @e_decT⟩, ⟨@e_decF, ⟨@e_cDispS, @e_cDT⟩⟩⟩⟩, ⟨⟨⟨@e_cDK, @e_cDisp1⟩, ⟨@e_storeA, @e_stR1⟩⟩, ⟨⟨@e_stR2, @e_stR3⟩, ⟨@e_sd1, ⟨@e_keyD1, @e_keyD2⟩⟩⟩⟩⟩⟩, ⟨⟨⟨⟨⟨@e_keyTD, @e_intsD⟩, ⟨@e_intsD0, @e_borT⟩⟩, ⟨⟨@e_borT2, @e_borK⟩, ⟨@e_borK2, @e_argT⟩⟩⟩, ⟨⟨⟨@e_argT2, @e_argK⟩, ⟨@e_argK2, @e_nbT⟩⟩, ⟨⟨@e_nbK, @e_putT⟩, ⟨@e_putK, ⟨@e_gAt1, @e_gAt2⟩⟩⟩⟩⟩, ⟨⟨⟨⟨@e_gAt3, @e_gAt4⟩, ⟨@e_gGetDK, @e_gGetDT⟩⟩, ⟨⟨@e_gIxD, @e_gInD⟩, ⟨@e_gNotInD, ⟨@e_cGet1, @e_cGet2⟩⟩⟩⟩, ⟨⟨⟨@e_dk1, @e_dk2⟩, ⟨@e_dk3, @e_dk4⟩⟩, ⟨⟨@e_dt1, @e_dt2⟩, ⟨@e_del, ⟨@atI_zero, @e_at1⟩⟩⟩⟩⟩⟩⟩, ⟨⟨⟨⟨⟨⟨@e_at2, @e_at3⟩, ⟨@e_at4, @e_at5⟩⟩, ⟨⟨@e_at6, @e_at7⟩, ⟨@e_at8, @e_at9⟩⟩⟩, ⟨⟨⟨@e_atm, @e_V⟩, ⟨@e_retV, @e_unp⟩⟩, ⟨⟨@e_app, @e_store⟩, ⟨@e_fzE, ⟨@rsO_some, @Rs.bind_ok⟩⟩⟩⟩⟩, ⟨⟨⟨⟨@Rs.bind_no, @Rs.out_ok⟩, ⟨@Out.then_nx, @Out.then_rt⟩⟩, ⟨⟨@Out.then_ct, @Out.then_bk⟩, ⟨@fin_rt, ⟨@fin_nx, @Bool.false_eq_true⟩⟩⟩⟩, ⟨⟨⟨@Bool.not_true, @Bool.not_false⟩, ⟨@and_self, @true_and⟩⟩, ⟨⟨@and_true, @sh_int⟩, ⟨@sh_bool, ⟨@sh_none, @sh_tup⟩⟩⟩⟩⟩⟩, ⟨⟨⟨⟨⟨@sh_lst, @eqv_int⟩, ⟨@kitB_ll, @kitB_lt⟩⟩, ⟨⟨@kitB_tt, @kitB_tl⟩, ⟨@kitB_ii, ⟨@tyD_list, @tyD_int⟩⟩⟩⟩, ⟨⟨⟨@Bool.true_and, @Bool.false_and⟩, ⟨@Bool.and_true, @Bool.and_false⟩⟩, ⟨⟨@Bool.or_true, @Bool.true_or⟩, ⟨@Bool.false_or, ⟨@Bool.or_false, @Bool.and_self⟩⟩⟩⟩⟩, ⟨⟨⟨⟨@Bool.or_self, @e_cAK⟩, ⟨@e_andB, @e_orB⟩⟩, ⟨⟨@e_andR, @e_orR⟩, ⟨@tyD_tuple, ⟨@eqv_bool, @eqv_none⟩⟩⟩⟩, ⟨⟨⟨@tyD_bool, @tyD_str⟩, ⟨@tyD_none, @kitB_bb⟩⟩, ⟨⟨@kitB_nb, @kitB_bi⟩, ⟨@kitB_ib, ⟨@kitB_nl, @kitB_nt⟩⟩⟩⟩⟩⟩⟩⟩⟩
def mt_TidyError : Nat → Option Bool
  | 1 => some true
  | _ => none
def tk_ProgramError : Nat → Option Bool
  | 1 => some true
  | _ => none
def tk_ValueError : Nat → Option Bool
  | 1 => some true
  | _ => none
def tk_TaskError : Nat → Option Bool
  | 1 => some false
  | _ => none
def tk_PlanError : Nat → Option Bool
  | 1 => some false
  | _ => none
def cs_what : Nat → Bool
  | 1 => true
  | _ => false
def cs_line : Nat → Bool
  | 1 => true
  | _ => false
noncomputable def B__law_cell : VEnv → Out :=
  (sSeq (sIf (cB (c2 gLt (cV 1) (cA gLen (aC (cV 0) aN)))) (sRet (c2 gIx (cV 0) (cV 1))) sNil)
    (sRet (cC (.int 0))))
noncomputable def F__law_cell : List RV → Rs RV := fnD 2 B__law_cell
noncomputable def L0__law_draw : VEnv → Out :=
  (sSeq (sApp 4 (c2 gMod (cV 3) (cV 5)))
    (sSet 3 (c2 gDiv (cV 3) (cV 5))))
noncomputable def L1__law_draw : VEnv → Out :=
  (sSeq (sSet 6 (c2 gMod (c2 gAdd (c2 gAdd (c2 gMul (cV 6) (cC (.int 48271))) (cC (.int 11))) (cV 7)) (cC (.int 2147483647))))
    (sSeq (sSet 6 (c2 gMod (c2 gAdd (c2 gMul (cV 6) (cC (.int 69621))) (cC (.int 3))) (cC (.int 2147483647))))
    (sApp 4 (c2 gMod (c2 gDiv (cV 6) (cC (.int 7))) (c2 gIx (cV 2) (cV 7))))))
noncomputable def B__law_draw : VEnv → Out :=
  (sSeq (sSet 3 (cA (fun rs => if rs.length = 2 then F__law_cell (rs.map RV.arg) else .no) (aC (cV 0) (aC (cV 1) aN))))
    (sSeq (sIf (cB (c2 gLt (cV 3) (cC (.int 0)))) (sSet 3 (c1 gNeg (cV 3))) sNil)
    (sSeq (sSet 4 (cA gList aN))
    (sSeq (sIf (cB (c2 gGe (cV 3) (c2 gPow (cC (.int 10)) (cC (.int 18))))) (sSeq (sSet 3 (c2 gSub (cV 3) (c2 gPow (cC (.int 10)) (cC (.int 18)))))
    (sSeq (sFor (.nm 5) (iL (cV 2)) L0__law_draw)
    (sRetV 4))) sNil)
    (sSeq (sSet 6 (c2 gMod (c2 gAdd (c2 gAdd (cV 3) (cC (.int 1))) (c2 gMul (cC (.int 31)) (cV 1))) (cC (.int 2147483647))))
    (sSeq (sFor (.nm 7) (iR gR1 (aC (cA gLen (aC (cV 2) aN)) aN)) L1__law_draw)
    (sRetV 4)))))))
noncomputable def F__law_draw : List RV → Rs RV := fnD 8 B__law_draw
noncomputable def B__law_operand : VEnv → Out :=
  (sSeq (sIf (bOr (cB (c2 gEq (cV 0) (cC (.int 0)))) (bAnd (cB (c2 gLt (cV 0) (cC (.int 3)))) (cB (c2 gEq (cV 3) (cC (.int 0)))))) (sRet (c2 gAdd (cC (.str "x")) (cA gStr (aC (c2 gMod (cV 1) (cV 2)) aN)))) sNil)
    (sSeq (sIf (cB (c2 gLt (cV 0) (cC (.int 3)))) (sRet (c2 gAdd (cC (.str "s")) (cA gStr (aC (c2 gSub (c2 gSub (cV 3) (cC (.int 1))) (c2 gMod (cV 1) (cA gMin2 (aC (cV 3) (aC (cC (.int 3)) aN))))) aN)))) sNil)
    (sSeq (sIf (cB (c2 gEq (cV 0) (cC (.int 3)))) (sRet (cA gStr (aC (c2 gIx (cA gList (aC (cC (.int 0)) (aC (cC (.int 1)) (aC (c2 gSub (cV 4) (cC (.int 1))) (aC (c2 gMod (cV 1) (cV 4)) aN))))) (c2 gMod (cV 1) (cC (.int 4)))) aN))) sNil)
    (sRet (c2 gAdd (cC (.str "x")) (cA gStr (aC (c2 gMod (cV 1) (cV 2)) aN)))))))
noncomputable def F__law_operand : List RV → Rs RV := fnD 5 B__law_operand
noncomputable def L0__law_program : VEnv → Out :=
  (sSeq (sSet 7 (cA (fun rs => if rs.length = 3 then F__law_draw (rs.map RV.arg) else .no) (aC (cV 0) (aC (c2 gAdd (c2 gAdd (cV 1) (cC (.int 1))) (c2 gMod (cV 6) (cC (.int 6)))) (aC (cA gList (aC (cC (.int 3)) (aC (cC (.int 5)) (aC (cC (.int 997)) (aC (cC (.int 5)) (aC (cC (.int 991)) aN)))))) aN)))))
    (sSeq (sFz 4 (sSet 8 (cA (fun rs => if rs.length = 5 then F__law_operand (rs.map RV.arg) else .no) (aC (c2 gIx (cV 7) (cC (.int 1))) (aC (c2 gAdd (c2 gIx (cV 7) (cC (.int 2))) (c2 gMul (cC (.int 7)) (cV 6))) (aC (cV 4) (aC (cA gLen (aC (cV 5) aN)) (aC (cV 3) aN))))))))
    (sSeq (sFz 4 (sSet 9 (cA (fun rs => if rs.length = 5 then F__law_operand (rs.map RV.arg) else .no) (aC (c2 gIx (cV 7) (cC (.int 3))) (aC (c2 gAdd (c2 gIx (cV 7) (cC (.int 4))) (c2 gMul (cC (.int 3)) (cV 6))) (aC (cV 4) (aC (cA gLen (aC (cV 5) aN)) (aC (cV 3) aN))))))))
    (sSeq (sFz 9 (sFz 8 (sSet 10 (cA gTupl (aC (c2 gIx (cC (.str "+-*")) (c2 gMod (c2 gAdd (c2 gIx (cV 7) (cC (.int 0))) (c2 gDiv (cV 6) (cC (.int 6)))) (cC (.int 3)))) (aC (cV 8) (aC (cV 9) aN)))))))
    (sIf (cB (c2 gNotIn (cV 10) (cV 5))) (sApp 5 (cV 10)) sNil)))))
noncomputable def L1__law_program : VEnv → Out :=
  (sIf (cB (c2 gEq (c2 gMod (c2 gDiv (c2 gIx (cV 2) (cC (.int 3))) (c2 gIx (cA gList (aC (cC (.int 1)) (aC (cC (.int 2)) (aC (cC (.int 4)) (aC (cC (.int 8)) (aC (cC (.int 16)) (aC (cC (.int 32)) (aC (cC (.int 64)) (aC (cC (.int 128)) aN))))))))) (cV 6))) (cC (.int 2))) (cC (.int 1)))) (sApp 11 (cV 6)) sNil)
noncomputable def B__law_program : VEnv → Out :=
  (sSeq (sSet 2 (cA (fun rs => if rs.length = 3 then F__law_draw (rs.map RV.arg) else .no) (aC (cV 0) (aC (cV 1) (aC (cA gList (aC (cC (.int 9)) (aC (cC (.int 6)) (aC (cC (.int 8)) (aC (cC (.int 256)) (aC (cC (.int 999)) aN)))))) aN)))))
    (sSeq (sSet 3 (c2 gIx (cA gList (aC (cC (.int 2)) (aC (cC (.int 3)) (aC (cC (.int 7)) (aC (cC (.int 10)) (aC (cC (.int 97)) (aC (cC (.int 100)) (aC (cC (.int 999)) (aC (cC (.int 1000)) (aC (c2 gAdd (cC (.int 2)) (c2 gIx (cV 2) (cC (.int 4)))) aN)))))))))) (c2 gIx (cV 2) (cC (.int 0)))))
    (sSeq (sSet 4 (c2 gAdd (cC (.int 1)) (c2 gIx (cV 2) (cC (.int 1)))))
    (sSeq (sSet 5 (cA gList aN))
    (sSeq (sFor (.nm 6) (iR gR1 (aC (c2 gAdd (cC (.int 1)) (c2 gIx (cV 2) (cC (.int 2)))) aN)) L0__law_program)
    (sSeq (sSet 11 (cA gList aN))
    (sSeq (sFor (.nm 6) (iR gR1 (aC (cA gLen (aC (cV 5) aN)) aN)) L1__law_program)
    (sSeq (sIf (cB (c2 gEq (cA gLen (aC (cV 11) aN)) (cC (.int 0)))) (sSet 11 (cA gList (aC (c2 gSub (cA gLen (aC (cV 5) aN)) (cC (.int 1))) aN))) sNil)
    (sFz 4 (sRet (cA gTupl (aC (cV 3) (aC (cV 4) (aC (cA gTupleC (aC (cV 5) aN)) (aC (cA gTupleC (aC (cV 11) aN)) aN)))))))))))))))
noncomputable def F__law_program : List RV → Rs RV := fnD 12 B__law_program
noncomputable def L0__law_lines : VEnv → Out :=
  (sSeq (sUnp (.tp [3, 4, 5]) (c2 gIx (c2 gIx (cV 0) (cC (.int 2))) (cV 2)))
    (sApp 1 (c2 gAdd (c2 gAdd (c2 gAdd (c2 gAdd (c2 gAdd (c2 gAdd (c2 gAdd (cC (.str "s")) (cA gStr (aC (cV 2) aN))) (cC (.str " = "))) (cV 4)) (cC (.str " "))) (cV 3)) (cC (.str " "))) (cV 5))))
noncomputable def L1__law_lines : VEnv → Out :=
  (sSet 6 (c2 gAdd (c2 gAdd (cV 6) (cC (.str " s"))) (cA gStr (aC (cV 7) aN))))
noncomputable def B__law_lines : VEnv → Out :=
  (sSeq (sSet 1 (cA gList (aC (c2 gAdd (cC (.str "mod ")) (cA gStr (aC (c2 gIx (cV 0) (cC (.int 0))) aN))) (aC (c2 gAdd (cC (.str "inputs ")) (cA gStr (aC (c2 gIx (cV 0) (cC (.int 1))) aN))) aN))))
    (sSeq (sFor (.nm 2) (iR gR1 (aC (cA gLen (aC (c2 gIx (cV 0) (cC (.int 2))) aN)) aN)) L0__law_lines)
    (sSeq (sSet 6 (cC (.str "return")))
    (sSeq (sFor (.nm 7) (iA (c2 gIx (cV 0) (cC (.int 3)))) L1__law_lines)
    (sFz 6 (sRet (c2 gAdd (cV 1) (cA gList (aC (cV 6) aN)))))))))
noncomputable def F__law_lines : List RV → Rs RV := fnD 8 B__law_lines
noncomputable def L0__law_number : VEnv → Out :=
  (sIf (cB (c2 gNotIn (cV 1) (cC (.str "0123456789")))) (sRet (cC .none)) sNil)
noncomputable def B__law_number : VEnv → Out :=
  (sSeq (sIf (bNot (cB (cCh gLe gLe (cC (.int 1)) (cA gLen (aC (cV 0) aN)) (cC (.int 6))))) (sRet (cC .none)) sNil)
    (sSeq (sFor (.nm 1) (iSg (cV 0)) L0__law_number)
    (sSeq (sIf (bAnd (cB (c2 gGt (cA gLen (aC (cV 0) aN)) (cC (.int 1)))) (cB (c2 gEq (c2 gIx (cV 0) (cC (.int 0))) (cC (.str "0"))))) (sRet (cC .none)) sNil)
    (sRet (cA gInt (aC (cV 0) aN))))))
noncomputable def F__law_number : List RV → Rs RV := fnD 2 B__law_number
noncomputable def B__law_names : VEnv → Out :=
  (sSeq (sIf (cB (c2 gNe (cSl (cV 0) oN (oS (cC (.int 1)))) (cV 1))) (sRet (cC .none)) sNil)
    (sRet (cA (fun rs => if rs.length = 1 then F__law_number (rs.map RV.arg) else .no) (aC (cSl (cV 0) (oS (cC (.int 1))) oN) aN))))
noncomputable def F__law_names : List RV → Rs RV := fnD 2 B__law_names
noncomputable def L0__law_return_fault : VEnv → Out :=
  (sIf (cB (c2 gGe (cV 3) (cV 1))) (sRet (cC (.str "unknown output"))) sNil)
noncomputable def L1__law_return_fault : VEnv → Out :=
  (sIf (cB (c2 gLe (c2 gIx (cV 2) (cV 4)) (c2 gIx (cV 2) (c2 gSub (cV 4) (cC (.int 1)))))) (sRet (cC (.str "not ascending"))) sNil)
noncomputable def B__law_return_fault : VEnv → Out :=
  (sSeq (sSet 2 (cLc (iAb (cV 0)) [5] (.nm 5) bYes (cA (fun rs => if rs.length = 2 then F__law_names (rs.map RV.arg) else .no) (aC (cV 5) (aC (cC (.str "s")) aN)))))
    (sSeq (sIf (cB (c2 gIn (cC .none) (cV 2))) (sRet (cC (.str "not understood"))) sNil)
    (sSeq (sIf (cB (c2 gEq (cA gLen (aC (cV 2) aN)) (cC (.int 0)))) (sRet (cC (.str "no outputs"))) sNil)
    (sSeq (sFz 2 (sFor (.nm 3) (iA (cV 2)) L0__law_return_fault))
    (sSeq (sFor (.nm 4) (iR gR2 (aC (cC (.int 1)) (aC (cA gLen (aC (cV 2) aN)) aN))) L1__law_return_fault)
    (sRet (cC .none)))))))
noncomputable def F__law_return_fault : List RV → Rs RV := fnD 6 B__law_return_fault
noncomputable def B__law_formed : VEnv → Out :=
  (sRet (vOr (c2 gIsNot (cA (fun rs => if rs.length = 1 then F__law_number (rs.map RV.arg) else .no) (aC (cV 0) aN)) (cC .none)) (vOr (c2 gIsNot (cA (fun rs => if rs.length = 2 then F__law_names (rs.map RV.arg) else .no) (aC (cV 0) (aC (cC (.str "x")) aN))) (cC .none)) (c2 gIsNot (cA (fun rs => if rs.length = 2 then F__law_names (rs.map RV.arg) else .no) (aC (cV 0) (aC (cC (.str "s")) aN))) (cC .none)))))
noncomputable def F__law_formed : List RV → Rs RV := fnD 1 B__law_formed
noncomputable def B__law_known : VEnv → Out :=
  (sSeq (sIf (cB (c2 gIsNot (cA (fun rs => if rs.length = 1 then F__law_number (rs.map RV.arg) else .no) (aC (cV 0) aN)) (cC .none))) (sRet (c2 gLt (cA (fun rs => if rs.length = 1 then F__law_number (rs.map RV.arg) else .no) (aC (cV 0) aN)) (cV 1))) sNil)
    (sSeq (sIf (cB (c2 gIsNot (cA (fun rs => if rs.length = 2 then F__law_names (rs.map RV.arg) else .no) (aC (cV 0) (aC (cC (.str "x")) aN))) (cC .none))) (sRet (c2 gLt (cA (fun rs => if rs.length = 2 then F__law_names (rs.map RV.arg) else .no) (aC (cV 0) (aC (cC (.str "x")) aN))) (cV 2))) sNil)
    (sRet (c2 gLt (cA (fun rs => if rs.length = 2 then F__law_names (rs.map RV.arg) else .no) (aC (cV 0) (aC (cC (.str "s")) aN))) (cV 3)))))
noncomputable def F__law_known : List RV → Rs RV := fnD 4 B__law_known
noncomputable def B__law_step_fault : VEnv → Out :=
  (sSeq (sIf (bOr (cB (c2 gNe (cA gLen (aC (cV 0) aN)) (cC (.int 5)))) (bOr (cB (c2 gIs (cA (fun rs => if rs.length = 2 then F__law_names (rs.map RV.arg) else .no) (aC (c2 gIx (cV 0) (cC (.int 0))) (aC (cC (.str "s")) aN))) (cC .none))) (bOr (cB (c2 gNe (c2 gIx (cV 0) (cC (.int 1))) (cC (.str "=")))) (cB (c2 gNotIn (c2 gIx (cV 0) (cC (.int 3))) (cA gList (aC (cC (.str "+")) (aC (cC (.str "-")) (aC (cC (.str "*")) aN))))))))) (sRet (cC (.str "not understood"))) sNil)
    (sSeq (sIf (bOr (bNot (cB (cA (fun rs => if rs.length = 1 then F__law_formed (rs.map RV.arg) else .no) (aC (c2 gIx (cV 0) (cC (.int 2))) aN)))) (bNot (cB (cA (fun rs => if rs.length = 1 then F__law_formed (rs.map RV.arg) else .no) (aC (c2 gIx (cV 0) (cC (.int 4))) aN))))) (sRet (cC (.str "not understood"))) sNil)
    (sSeq (sIf (cB (c2 gGe (cA gLen (aC (cV 3) aN)) (cC (.int 8)))) (sRet (cC (.str "too many steps"))) sNil)
    (sSeq (sIf (cB (c2 gNe (cA (fun rs => if rs.length = 2 then F__law_names (rs.map RV.arg) else .no) (aC (c2 gIx (cV 0) (cC (.int 0))) (aC (cC (.str "s")) aN))) (cA gLen (aC (cV 3) aN)))) (sRet (cC (.str "wrong name"))) sNil)
    (sSeq (sIf (bOr (bNot (cB (cA (fun rs => if rs.length = 4 then F__law_known (rs.map RV.arg) else .no) (aC (c2 gIx (cV 0) (cC (.int 2))) (aC (cV 1) (aC (cV 2) (aC (cA gLen (aC (cV 3) aN)) aN))))))) (bNot (cB (cA (fun rs => if rs.length = 4 then F__law_known (rs.map RV.arg) else .no) (aC (c2 gIx (cV 0) (cC (.int 4))) (aC (cV 1) (aC (cV 2) (aC (cA gLen (aC (cV 3) aN)) aN)))))))) (sRet (cC (.str "unknown operand"))) sNil)
    (sSeq (sIf (cB (c2 gIn (cA gTupl (aC (c2 gIx (cV 0) (cC (.int 3))) (aC (c2 gIx (cV 0) (cC (.int 2))) (aC (c2 gIx (cV 0) (cC (.int 4))) aN)))) (cV 3))) (sRet (cC (.str "same step"))) sNil)
    (sRet (cC .none))))))))
noncomputable def F__law_step_fault : List RV → Rs RV := fnD 4 B__law_step_fault
noncomputable def L0__law_due : VEnv → Out :=
  (sSeq (sSet 5 (cM1 gSplit (c2 gIx (cV 0) (cV 4)) (cC (.str " "))))
    (sSeq (sSet 6 (cC .none))
    (sSeq (sIf (cB (c2 gEq (cA gLen (aC (cV 5) aN)) (cC (.int 2)))) (sSet 6 (cA (fun rs => if rs.length = 1 then F__law_number (rs.map RV.arg) else .no) (aC (c2 gIx (cV 5) (cC (.int 1))) aN))) sNil)
    (sIf (cB (c2 gEq (cV 4) (cC (.int 0)))) (sSeq (sIf (bOr (cB (c2 gNe (c2 gIx (cV 5) (cC (.int 0))) (cC (.str "mod")))) (bOr (cB (c2 gIs (cV 6) (cC .none))) (bNot (cB (cCh gLe gLe (cC (.int 2)) (cV 6) (cC (.int 1000))))))) (sRet (cA gTupl (aC (cC (.int 1)) (aC (cC (.str "expected mod")) aN)))) sNil)
    (sFz 6 (sSet 2 (cV 6)))) (sIf (cB (c2 gEq (cV 4) (cC (.int 1)))) (sSeq (sIf (bOr (cB (c2 gNe (c2 gIx (cV 5) (cC (.int 0))) (cC (.str "inputs")))) (bOr (cB (c2 gIs (cV 6) (cC .none))) (bNot (cB (cCh gLe gLe (cC (.int 1)) (cV 6) (cC (.int 6))))))) (sRet (cA gTupl (aC (cC (.int 2)) (aC (cC (.str "expected inputs")) aN)))) sNil)
    (sFz 6 (sSet 3 (cV 6)))) (sIf (cB (c2 gEq (c2 gIx (cV 5) (cC (.int 0))) (cC (.str "return")))) (sSeq (sSet 7 (cA (fun rs => if rs.length = 2 then F__law_return_fault (rs.map RV.arg) else .no) (aC (cSl (cV 5) (oS (cC (.int 1))) oN) (aC (cA gLen (aC (cV 1) aN)) aN))))
    (sSeq (sIf (cB (c2 gIsNot (cV 7) (cC .none))) (sFz 7 (sRet (cA gTupl (aC (c2 gAdd (cV 4) (cC (.int 1))) (aC (cV 7) aN))))) sNil)
    (sSeq (sIf (cB (c2 gLt (c2 gAdd (cV 4) (cC (.int 1))) (cA gLen (aC (cV 0) aN)))) (sRet (cA gTupl (aC (c2 gAdd (cV 4) (cC (.int 2))) (aC (cC (.str "text behind return")) aN)))) sNil)
    (sRet (cC .none))))) (sSeq (sFz 3 (sFz 2 (sFz 5 (sSet 7 (cA (fun rs => if rs.length = 4 then F__law_step_fault (rs.map RV.arg) else .no) (aC (cV 5) (aC (cV 2) (aC (cV 3) (aC (cV 1) aN)))))))))
    (sSeq (sIf (cB (c2 gIsNot (cV 7) (cC .none))) (sFz 7 (sRet (cA gTupl (aC (c2 gAdd (cV 4) (cC (.int 1))) (aC (cV 7) aN))))) sNil)
    (sApp 1 (cA gTupl (aC (c2 gIx (cV 5) (cC (.int 3))) (aC (c2 gIx (cV 5) (cC (.int 2))) (aC (c2 gIx (cV 5) (cC (.int 4))) aN)))))))))))))
noncomputable def B__law_due : VEnv → Out :=
  (sSeq (sSet 1 (cA gList aN))
    (sSeq (sSet 2 (cC (.int 0)))
    (sSeq (sSet 3 (cC (.int 0)))
    (sSeq (sFor (.nm 4) (iR gR1 (aC (cA gLen (aC (cV 0) aN)) aN)) L0__law_due)
    (sRet (cA gTupl (aC (c2 gAdd (cA gLen (aC (cV 0) aN)) (cC (.int 1))) (aC (c2 gIx (cA gList (aC (cC (.str "expected mod")) (aC (cC (.str "expected inputs")) (aC (cC (.str "expected return")) aN)))) (cA gMin2 (aC (cC (.int 2)) (aC (cA gLen (aC (cV 0) aN)) aN)))) aN))))))))
noncomputable def F__law_due : List RV → Rs RV := fnD 8 B__law_due
noncomputable def B_Reader___init__ : VEnv → Out :=
  (sSeq (sFldS "Reader" false 0 "modulus" (cC (.int 0)))
    (sSeq (sFldS "Reader" false 0 "inputs" (cC (.int 0)))
    (sSeq (sFldS "Reader" true 0 "steps" (cA gList aN))
    (sFldS "Reader" false 0 "outputs" (cC .none)))))
noncomputable def F_Reader___init__ : List RV → MR := fnM 1 B_Reader___init__
noncomputable def B_lines_of : VEnv → Out :=
  (sSeq (sSet 1 (cM1 gSplit (cV 0) (cC (.str "\n"))))
    (sSeq (sIf (cB (c2 gEq (c2 gIx (cV 1) (c1 gNeg (cC (.int 1)))) (cC (.str "")))) (sRet (cSl (cV 1) oN (oS (c1 gNeg (cC (.int 1)))))) sNil)
    (sRetV 1)))
noncomputable def F_lines_of : List RV → Rs RV := fnD 2 B_lines_of
noncomputable def B_number_of : VEnv → Out :=
  (sSeq (sIf (bOr (bNot (cB (cCh gLe gLe (cC (.int 1)) (cA gLen (aC (cV 0) aN)) (cC (.int 6))))) (bNot (cB (cAllC "0123456789" (cV 0))))) (sRet (cC .none)) sNil)
    (sSeq (sIf (bAnd (cB (c2 gGt (cA gLen (aC (cV 0) aN)) (cC (.int 1)))) (cB (c2 gEq (c2 gIx (cV 0) (cC (.int 0))) (cC (.str "0"))))) (sRet (cC .none)) sNil)
    (sRet (cA gInt (aC (cV 0) aN)))))
noncomputable def F_number_of : List RV → Rs RV := fnD 1 B_number_of
noncomputable def B_number_behind : VEnv → Out :=
  (sSeq (sIf (cB (c2 gNe (cSl (cV 1) oN (oS (cC (.int 1)))) (cV 0))) (sRet (cC .none)) sNil)
    (sRet (cA (fun rs => if rs.length = 1 then F_number_of (rs.map RV.arg) else .no) (aC (cSl (cV 1) (oS (cC (.int 1))) oN) aN))))
noncomputable def F_number_behind : List RV → Rs RV := fnD 2 B_number_behind
noncomputable def B_looks_like_operand : VEnv → Out :=
  (sSeq (sIf (bOr (cB (c2 gIsNot (cA (fun rs => if rs.length = 1 then F_number_of (rs.map RV.arg) else .no) (aC (cV 0) aN)) (cC .none))) (cB (c2 gIsNot (cA (fun rs => if rs.length = 2 then F_number_behind (rs.map RV.arg) else .no) (aC (cC (.str "x")) (aC (cV 0) aN))) (cC .none)))) (sRet (cC (.bool true))) sNil)
    (sRet (c2 gIsNot (cA (fun rs => if rs.length = 2 then F_number_behind (rs.map RV.arg) else .no) (aC (cC (.str "s")) (aC (cV 0) aN))) (cC .none))))
noncomputable def F_looks_like_operand : List RV → Rs RV := fnD 1 B_looks_like_operand
noncomputable def B_Reader_is_operand : VEnv → Out :=
  (sSeq (sIf (cB (c2 gEq (c2 gIx (cV 1) (cC (.int 0))) (cC (.str "x")))) (sRet (c2 gLt (cA (fun rs => if rs.length = 2 then F_number_behind (rs.map RV.arg) else .no) (aC (cC (.str "x")) (aC (cV 1) aN))) (cFld "Reader" 0 "inputs"))) sNil)
    (sSeq (sIf (cB (c2 gEq (c2 gIx (cV 1) (cC (.int 0))) (cC (.str "s")))) (sRet (c2 gLt (cA (fun rs => if rs.length = 2 then F_number_behind (rs.map RV.arg) else .no) (aC (cC (.str "s")) (aC (cV 1) aN))) (cA gLen (aC (cFld "Reader" 0 "steps") aN)))) sNil)
    (sRet (c2 gLt (cA (fun rs => if rs.length = 1 then F_number_of (rs.map RV.arg) else .no) (aC (cV 1) aN)) (cFld "Reader" 0 "modulus")))))
noncomputable def F_Reader_is_operand : List RV → Rs RV := fnD 2 B_Reader_is_operand
noncomputable def B_Reader_take_step : VEnv → Out :=
  (sSeq (sIf (bOr (cB (c2 gNe (cA gLen (aC (cV 1) aN)) (cC (.int 5)))) (bOr (cB (c2 gNe (c2 gIx (cV 1) (cC (.int 1))) (cC (.str "=")))) (cB (c2 gNotIn (c2 gIx (cV 1) (cC (.int 3))) (cC (.tuple [.str "+", .str "-", .str "*"])))))) (sRetS (cC (.str "not understood"))) sNil)
    (sSeq (sSet 2 (cA (fun rs => if rs.length = 2 then F_number_behind (rs.map RV.arg) else .no) (aC (cC (.str "s")) (aC (c2 gIx (cV 1) (cC (.int 0))) aN))))
    (sSeq (sIf (bOr (cB (c2 gIs (cV 2) (cC .none))) (bOr (bNot (cB (cA (fun rs => if rs.length = 1 then F_looks_like_operand (rs.map RV.arg) else .no) (aC (c2 gIx (cV 1) (cC (.int 2))) aN)))) (bNot (cB (cA (fun rs => if rs.length = 1 then F_looks_like_operand (rs.map RV.arg) else .no) (aC (c2 gIx (cV 1) (cC (.int 4))) aN)))))) (sRetS (cC (.str "not understood"))) sNil)
    (sSeq (sIf (cB (c2 gGe (cA gLen (aC (cFld "Reader" 0 "steps") aN)) (cC (.int 8)))) (sRetS (cC (.str "too many steps"))) sNil)
    (sSeq (sIf (cB (c2 gNe (cV 2) (cA gLen (aC (cFld "Reader" 0 "steps") aN)))) (sRetS (cC (.str "wrong name"))) sNil)
    (sSeq (sIf (bOr (bNot (cB (cMP "Reader" 0 "is_operand" (fun rs => if rs.length = 2 then F_Reader_is_operand rs else .no) (aC (c2 gIx (cV 1) (cC (.int 2))) aN)))) (bNot (cB (cMP "Reader" 0 "is_operand" (fun rs => if rs.length = 2 then F_Reader_is_operand rs else .no) (aC (c2 gIx (cV 1) (cC (.int 4))) aN))))) (sRetS (cC (.str "unknown operand"))) sNil)
    (sSeq (sSet 3 (cA gTupl (aC (c2 gIx (cV 1) (cC (.int 3))) (aC (c2 gIx (cV 1) (cC (.int 2))) (aC (c2 gIx (cV 1) (cC (.int 4))) aN)))))
    (sSeq (sIf (cB (c2 gIn (cV 3) (cFld "Reader" 0 "steps"))) (sRetS (cC (.str "same step"))) sNil)
    (sSeq (sFApp "Reader" 0 "steps" (cV 3))
    (sRetS (cC .none)))))))))))
noncomputable def F_Reader_take_step : List RV → MR := fnM 4 B_Reader_take_step
noncomputable def B_number_in : VEnv → Out :=
  (sSeq (sSet 4 (cM1 gSplit (cV 0) (cC (.str " "))))
    (sSeq (sIf (bOr (cB (c2 gNe (cA gLen (aC (cV 4) aN)) (cC (.int 2)))) (cB (c2 gNe (c2 gIx (cV 4) (cC (.int 0))) (cV 1)))) (sRet (cC .none)) sNil)
    (sSeq (sSet 5 (cA (fun rs => if rs.length = 1 then F_number_of (rs.map RV.arg) else .no) (aC (c2 gIx (cV 4) (cC (.int 1))) aN)))
    (sSeq (sIf (bOr (cB (c2 gIs (cV 5) (cC .none))) (bOr (cB (c2 gLt (cV 5) (cV 2))) (cB (c2 gGt (cV 5) (cV 3))))) (sRet (cC .none)) sNil)
    (sRetV 5)))))
noncomputable def F_number_in : List RV → Rs RV := fnD 6 B_number_in
noncomputable def B_Reader_take_modulus : VEnv → Out :=
  (sSeq (sSet 2 (cA (fun rs => if rs.length = 4 then F_number_in (rs.map RV.arg) else .no) (aC (cV 1) (aC (cC (.str "mod")) (aC (cC (.int 2)) (aC (cC (.int 1000)) aN))))))
    (sSeq (sIf (cB (c2 gIs (cV 2) (cC .none))) (sRetS (cC (.str "expected mod"))) sNil)
    (sSeq (sFz 2 (sFldS "Reader" false 0 "modulus" (cV 2)))
    (sRetS (cC .none)))))
noncomputable def F_Reader_take_modulus : List RV → MR := fnM 3 B_Reader_take_modulus
noncomputable def B_Reader_take_inputs : VEnv → Out :=
  (sSeq (sSet 2 (cA (fun rs => if rs.length = 4 then F_number_in (rs.map RV.arg) else .no) (aC (cV 1) (aC (cC (.str "inputs")) (aC (cC (.int 1)) (aC (cC (.int 6)) aN))))))
    (sSeq (sIf (cB (c2 gIs (cV 2) (cC .none))) (sRetS (cC (.str "expected inputs"))) sNil)
    (sSeq (sFz 2 (sFldS "Reader" false 0 "inputs" (cV 2)))
    (sRetS (cC .none)))))
noncomputable def F_Reader_take_inputs : List RV → MR := fnM 3 B_Reader_take_inputs
noncomputable def L0_Reader_take_outputs : VEnv → Out :=
  (sIf (cB (c2 gGe (cV 3) (cA gLen (aC (cFld "Reader" 0 "steps") aN)))) (sRetS (cC (.str "unknown output"))) sNil)
noncomputable def L1_Reader_take_outputs : VEnv → Out :=
  (sIf (cB (c2 gLe (c2 gIx (cV 2) (cV 4)) (c2 gIx (cV 2) (c2 gSub (cV 4) (cC (.int 1)))))) (sRetS (cC (.str "not ascending"))) sNil)
noncomputable def B_Reader_take_outputs : VEnv → Out :=
  (sSeq (sSet 2 (cLc (iAb (cV 1)) [5] (.nm 5) bYes (cA (fun rs => if rs.length = 2 then F_number_behind (rs.map RV.arg) else .no) (aC (cC (.str "s")) (aC (cV 5) aN)))))
    (sSeq (sIf (cB (c2 gIn (cC .none) (cV 2))) (sRetS (cC (.str "not understood"))) sNil)
    (sSeq (sIf (cB (c2 gEq (cA gLen (aC (cV 2) aN)) (cC (.int 0)))) (sRetS (cC (.str "no outputs"))) sNil)
    (sSeq (sFz 2 (sFor (.nm 3) (iA (cV 2)) L0_Reader_take_outputs))
    (sSeq (sFor (.nm 4) (iR gR2 (aC (cC (.int 1)) (aC (cA gLen (aC (cV 2) aN)) aN))) L1_Reader_take_outputs)
    (sSeq (sFldS "Reader" false 0 "outputs" (cA gTupleC (aC (cV 2) aN)))
    (sRetS (cC .none))))))))
noncomputable def F_Reader_take_outputs : List RV → MR := fnM 6 B_Reader_take_outputs
noncomputable def B_Reader_take : VEnv → Out :=
  (sSeq (sIf (cB (c2 gEq (cV 1) (cC (.int 0)))) (sRetM (cM "Reader" 0 "take_modulus" (fun rs => if rs.length = 2 then F_Reader_take_modulus rs else .no) (aC (cV 2) aN))) sNil)
    (sSeq (sIf (cB (c2 gEq (cV 1) (cC (.int 1)))) (sRetM (cM "Reader" 0 "take_inputs" (fun rs => if rs.length = 2 then F_Reader_take_inputs rs else .no) (aC (cV 2) aN))) sNil)
    (sSeq (sIf (cB (c2 gIsNot (cFld "Reader" 0 "outputs") (cC .none))) (sRetS (cC (.str "text behind return"))) sNil)
    (sSeq (sSet 3 (cM1 gSplit (cV 2) (cC (.str " "))))
    (sSeq (sIf (cB (c2 gEq (c2 gIx (cV 3) (cC (.int 0))) (cC (.str "return")))) (sRetM (cM "Reader" 0 "take_outputs" (fun rs => if rs.length = 2 then F_Reader_take_outputs rs else .no) (aC (cSl (cV 3) (oS (cC (.int 1))) oN) aN))) sNil)
    (sFz 3 (sRetM (cM "Reader" 0 "take_step" (fun rs => if rs.length = 2 then F_Reader_take_step rs else .no) (aC (cV 3) aN)))))))))
noncomputable def F_Reader_take : List RV → MR := fnM 4 B_Reader_take
noncomputable def L0_read_program : VEnv → Out :=
  (sSeq (sSetM 4 (cM "Reader" 2 "take" (fun rs => if rs.length = 3 then F_Reader_take rs else .no) (aC (cV 3) (aC (c2 gIx (cV 1) (cV 3)) aN))))
    (sIf (cB (c2 gIsNot (cV 4) (cC .none))) (sFz 4 (sRaise 1 2 [("what", 1), ("line", 0)] (aC (c2 gAdd (cV 3) (cC (.int 1))) (aC (cV 4) aN)))) sNil))
noncomputable def B_read_program : VEnv → Out :=
  (sSeq (sSet 1 (cA (fun rs => if rs.length = 1 then F_lines_of (rs.map RV.arg) else .no) (aC (cV 0) aN)))
    (sSeq (sSet 2 (cA (mkO (fun rs => if rs.length = 1 then F_Reader___init__ rs else .no) "Reader") aN))
    (sSeq (sFor (.nm 3) (iR gR1 (aC (cA gLen (aC (cV 1) aN)) aN)) L0_read_program)
    (sSeq (sIf (cB (c2 gIs (cFld "Reader" 2 "outputs") (cC .none))) (sSeq (sSet 5 (c2 gIx (cA gList (aC (cC (.str "expected mod")) (aC (cC (.str "expected inputs")) (aC (cC (.str "expected return")) aN)))) (cA gMin2 (aC (cC (.int 2)) (aC (cA gLen (aC (cV 1) aN)) aN)))))
    (sRaise 1 2 [("what", 1), ("line", 0)] (aC (c2 gAdd (cA gLen (aC (cV 1) aN)) (cC (.int 1))) (aC (cV 5) aN)))) sNil)
    (sRet (cA gTupl (aC (cFld "Reader" 2 "modulus") (aC (cFld "Reader" 2 "inputs") (aC (cA gTupleC (aC (cFld "Reader" 2 "steps") aN)) (aC (cFld "Reader" 2 "outputs") aN))))))))))
noncomputable def F_read_program : List RV → Rs RV := fnD 6 B_read_program
noncomputable def Y0_law : VEnv → Out :=
  (sFz 7 (sSet 9 (cA (fun rs => if rs.length = 1 then F_read_program (rs.map RV.arg) else .no) (aC (cV 7) aN))))
noncomputable def Z0_law : Addr → Addr → Nat → VEnv → Out := fun a dd c =>
  (sSeq (sIf (bOr (bNot (cB (cIsE a dd c tk_ProgramError 10))) (bOr (bNot (cB (cIsE a dd c tk_ValueError 10))) (bOr (cB (cIsE a dd c tk_TaskError 10)) (cB (cIsE a dd c tk_PlanError 10))))) (sRet (cC (.bool false))) sNil)
    (sSeq (sIf (bOr (cB (c2 gIs (cV 8) (cC .none))) (cB (c2 gNe (cA gTupl (aC (cXf a dd c cs_line 10 "line") (aC (cXf a dd c cs_what 10 "what") aN))) (cV 8)))) (sRet (cC (.bool false))) sNil)
    sCt))
noncomputable def L2_law : VEnv → Out :=
  (sSeq (sSet 3 (cA (fun rs => if rs.length = 2 then F__law_program (rs.map RV.arg) else .no) (aC (cV 0) (aC (c2 gMul (cC (.int 8)) (cV 2)) aN))))
    (sSeq (sFz 3 (sSet 4 (cA (fun rs => if rs.length = 1 then F__law_lines (rs.map RV.arg) else .no) (aC (cV 3) aN))))
    (sSeq (sSet 5 (cA (fun rs => if rs.length = 3 then F__law_draw (rs.map RV.arg) else .no) (aC (cV 0) (aC (c2 gAdd (c2 gMul (cC (.int 8)) (cV 2)) (cC (.int 7))) (aC (cA gList (aC (cC (.int 6)) (aC (cC (.int 11)) (aC (cC (.int 44)) (aC (cC (.int 2)) aN))))) aN)))))
    (sSeq (sSet 6 (c2 gMod (c2 gIx (cV 5) (cC (.int 1))) (cA gLen (aC (cV 4) aN))))
    (sSeq (sIf (cB (c2 gEq (c2 gIx (cV 5) (cC (.int 0))) (cC (.int 0)))) (sSet 4 (c2 gAdd (c2 gAdd (cSl (cV 4) oN (oS (cV 6))) (cA gList (aC (c2 gIx (cV 1) (c2 gIx (cV 5) (cC (.int 2)))) aN))) (cSl (cV 4) (oS (c2 gAdd (cV 6) (cC (.int 1)))) oN))) (sIf (cB (c2 gEq (c2 gIx (cV 5) (cC (.int 0))) (cC (.int 1)))) (sSet 4 (c2 gAdd (c2 gAdd (cSl (cV 4) oN (oS (cV 6))) (cA gList (aC (c2 gIx (cV 1) (c2 gIx (cV 5) (cC (.int 2)))) aN))) (cSl (cV 4) (oS (cV 6)) oN))) (sIf (cB (c2 gEq (c2 gIx (cV 5) (cC (.int 0))) (cC (.int 2)))) (sSet 4 (c2 gAdd (cSl (cV 4) oN (oS (cV 6))) (cSl (cV 4) (oS (c2 gAdd (cV 6) (cC (.int 1)))) oN))) (sIf (cB (c2 gEq (c2 gIx (cV 5) (cC (.int 0))) (cC (.int 3)))) (sSet 4 (c2 gAdd (cSl (cV 4) oN (oS (c2 gAdd (cV 6) (cC (.int 1))))) (cSl (cV 4) (oS (cV 6)) oN))) (sIf (cB (c2 gEq (c2 gIx (cV 5) (cC (.int 0))) (cC (.int 4)))) (sSet 4 (cSl (cV 4) oN (oS (cV 6)))) (sSet 4 (c2 gAdd (cV 4) (cA gList (aC (c2 gIx (cV 1) (c2 gIx (cV 5) (cC (.int 2)))) aN)))))))))
    (sSeq (sFz 4 (sSet 7 (cM1 gJoin (cC (.str "\n")) (cV 4))))
    (sSeq (sIf (bAnd (cB (c2 gEq (c2 gIx (cV 5) (cC (.int 3))) (cC (.int 1)))) (cB (c2 gGt (cA gLen (aC (cV 4) aN)) (cC (.int 0))))) (sSet 7 (c2 gAdd (cV 7) (cC (.str "\n")))) sNil)
    (sSeq (sIf (bAnd (cB (c2 gGt (cA gLen (aC (cV 4) aN)) (cC (.int 0)))) (bAnd (cB (c2 gEq (c2 gIx (cV 4) (c1 gNeg (cC (.int 1)))) (cC (.str "")))) (cB (c2 gEq (c2 gIx (cV 5) (cC (.int 3))) (cC (.int 0)))))) (sSet 4 (cSl (cV 4) oN (oS (c1 gNeg (cC (.int 1)))))) sNil)
    (sSeq (sFz 4 (sSet 8 (cA (fun rs => if rs.length = 1 then F__law_due (rs.map RV.arg) else .no) (aC (cV 4) aN))))
    (sSeq (sTry mt_TidyError 10 Y0_law Z0_law)
    (sFz 9 (sIf (bOr (cB (c2 gIsNot (cV 8) (cC .none))) (cB (c2 gNe (cA (fun rs => if rs.length = 1 then F__law_lines (rs.map RV.arg) else .no) (aC (cV 9) aN)) (cV 4)))) (sRet (cC (.bool false))) sNil))))))))))))
noncomputable def B_law : VEnv → Out :=
  (sSeq (sSet 1 (cA gList (aC (cC (.str "")) (aC (cC (.str " ")) (aC (cC (.str "mod 7")) (aC (cC (.str "mod 1")) (aC (cC (.str "mod 1001")) (aC (cC (.str "mod 007")) (aC (cC (.str "mod")) (aC (cC (.str "inputs 0")) (aC (cC (.str "inputs 7")) (aC (cC (.str "inputs 2 ")) (aC (cC (.str "inputs 6")) (aC (cC (.str "return")) (aC (cC (.str "return ")) (aC (cC (.str "return s0")) aN))))))))))))))))
    (sSeq (sSet 1 (c2 gAdd (cV 1) (cA gList (aC (cC (.str "return s1 s0")) (aC (cC (.str "return s0 s0")) (aC (cC (.str "return s9")) (aC (cC (.str "return x0")) (aC (cC (.str "return 0")) (aC (cC (.str "return s00")) (aC (cC (.str "returns s0")) (aC (cC (.str " return s0")) (aC (cC (.str "s0 = x0 + x0")) (aC (cC (.str "s0 = x0 + x1")) aN)))))))))))))
    (sSeq (sSet 1 (c2 gAdd (cV 1) (cA gList (aC (cC (.str "s1 = x0 + x0")) (aC (cC (.str "s0 = s0 + x0")) (aC (cC (.str "s1 = s1 * 1")) (aC (cC (.str "s2 = x0 - x9")) (aC (cC (.str "s1 = 1000 + 0")) (aC (cC (.str "s0 = 999 * 1")) (aC (cC (.str "s1  = x0 + x0")) (aC (cC (.str "s1 = x0 / x0")) (aC (cC (.str "s1 = x0 + x")) (aC (cC (.str "s1 = y0 + x0")) aN)))))))))))))
    (sSeq (sSet 1 (c2 gAdd (cV 1) (cA gList (aC (cC (.str "s1 = x0 +")) (aC (cC (.str "s = x0 + x0")) (aC (cC (.str "s1 := x0 + x0")) (aC (cC (.str "s3 = s2 + s2")) (aC (cC (.str "s7 = s0 * s0")) (aC (cC (.str "s8 = s0 * s0")) (aC (cC (.str "# remark")) (aC (cC (.str "s1 = -1 + x0")) (aC (cC (.str "s1 = 01 + x0")) (aC (cC (.str "s1 = 1000000 + x0")) aN)))))))))))))
    (sSeq (sFor (.nm 2) (iR gR1 (aC (cA gMin2 (aC (cC (.int 6)) (aC (cA gMax2 (aC (cC (.int 1)) (aC (c2 gDiv (cA gLen (aC (cV 0) aN)) (cC (.int 8))) aN))) aN))) aN)) L2_law)
    (sRet (cC (.bool true))))))))
noncomputable def F_law : List RV → Rs RV := fnD 11 B_law
def cell (ns : List Int) (k : Nat) : Int := ns.getD k 0
theorem cell_ok (ns : List Int) (k : Nat) : F__law_cell [.sc ns, .d (.int k)] = .ok (.d (.int (cell ns k))) := by
  unfold F__law_cell fnD B__law_cell
  simp [e_V]
  by_cases h : k < ns.length
  · simp [h, atI_lt, cell]
  · simp [h, cell]
structure Drawn (sizes ds : List Int) : Prop where
  len : ds.length = sizes.length
  lo : ∀ i (h : i < ds.length), 0 ≤ ds[i]
  hi : ∀ i (h : i < ds.length) (h' : i < sizes.length), ds[i] < sizes[i]
theorem Drawn.snoc {sizes ds : List Int} {s d : Int} (h : Drawn sizes ds) (h0 : 0 ≤ d) (h1 : d < s) : Drawn (sizes ++ [s]) (ds ++ [d]) := by
  refine ⟨by simp [h.len], fun i hi => ?_, fun i hi hi' => ?_⟩
  · by_cases c : i < ds.length
    · rw [List.getElem_append_left c]; exact h.lo i c
    · rw [List.getElem_append_right (by omega)]; simpa using h0
  · by_cases c : i < ds.length
    · rw [List.getElem_append_left c, List.getElem_append_left (by rw [← h.len]; exact c)]; exact h.hi i c _
    · rw [List.getElem_append_right (by omega), List.getElem_append_right (by rw [← h.len]; omega)]; simpa using h1
def Sizes (sizes : List Int) : Prop := ∀ s ∈ sizes, 0 < s ∧ s < 1073741824
theorem draw_far (sizes : List Int) (hs : Sizes sizes) (a b : RV) (k : PyData) : ∀ (xs pre ds : List Int) (c : Int) (j5 j6 j7 : Option RV), pre ++ xs = sizes → Drawn pre ds → sizes.length ≤ 1000 → 0 ≤ c →
    ∃ (ds' : List Int) (c' : Int) (j5' : Option RV), loopF (.nm 5) (sSeq (sApp 4 (c2 gMod (cV 3) (cV 5))) (sSet 3 (c2 gDiv (cV 3) (cV 5)))) (xs.map .int) [some a, some b, some (.d k), some (.d (.int c)), some (.ol (ds.map .int)), j5, j6, j7] = .nx [some a, some b, some (.d k), some (.d (.int c')), some (.ol (ds'.map .int)), j5', j6, j7] ∧ Drawn sizes ds'
  | [], pre, ds, c, j5, j6, j7, e, h, hl, h0 => ⟨ds, c, j5, rfl, by rw [← e, List.append_nil]; exact h⟩
  | x :: xs, pre, ds, c, j5, j6, j7, e, h, hl, h0 => by
    have hx0 : 0 < x ∧ x < 1073741824 := hs x (by rw [← e]; simp)
    have hx : 0 < x ∧ x.natAbs < 1073741824 := by omega
    have hlen : ds.length ≤ 1000000 := by
      have : pre.length ≤ sizes.length := by (rw [← e]; simp)
      rw [h.len]; omega
    obtain ⟨ds', c', j5', e1, d1⟩ := draw_far sizes hs a b k xs (pre ++ [x]) (ds ++ [c % x]) (c / x) (some (.d (.int x))) j6 j7 (by rw [← e]; simp) (h.snoc (Int.emod_nonneg c (by omega)) (Int.emod_lt_of_pos c hx.1)) hl (Int.ediv_nonneg h0 (by omega))
    refine ⟨ds', c', j5', ?_, d1⟩
    rw [List.map_cons, loopF_cons]
    simp [e_app, e_V, hx, hlen]
    simpa using e1
theorem draw_near (sizes : List Int) (hs : Sizes sizes) (a b : RV) (j3 j5 : Option RV) : ∀ (n i : Nat) (ds : List Int) (m : Int) (j7 : Option RV), i + n = sizes.length → Drawn (sizes.take i) ds → sizes.length ≤ 1000 → 0 ≤ m → m < 2147483647 →
    ∃ (ds' : List Int) (m' : Int) (j7' : Option RV), loopF (.nm 7) (sSeq (sSet 6 (c2 gMod (c2 gAdd (c2 gAdd (c2 gMul (cV 6) (cC (.int 48271))) (cC (.int 11))) (cV 7)) (cC (.int 2147483647))))
    (sSeq (sSet 6 (c2 gMod (c2 gAdd (c2 gMul (cV 6) (cC (.int 69621))) (cC (.int 3))) (cC (.int 2147483647))))
    (sApp 4 (c2 gMod (c2 gDiv (cV 6) (cC (.int 7))) (c2 gIx (cV 2) (cV 7)))))) ((List.range' i n).map fun k : Nat => .int (k : Int)) [some a, some b, some (.d (.list (sizes.map .int))), j3, some (.ol (ds.map .int)), j5, some (.d (.int m)), j7] = .nx [some a, some b, some (.d (.list (sizes.map .int))), j3, some (.ol (ds'.map .int)), j5, some (.d (.int m')), j7'] ∧ Drawn sizes ds'
  | 0, i, ds, m, j7, e, h, hl, h0, h1 => ⟨ds, m, j7, rfl, by rw [Nat.add_zero] at e; rw [e, List.take_length] at h; exact h⟩
  | n + 1, i, ds, m, j7, e, h, hl, h0, h1 => by
    have hi : i < sizes.length := by omega
    have hx : 0 < sizes[i] ∧ sizes[i] < 1073741824 := hs _ (List.getElem_mem hi)
    have hlen : ds.length ≤ 1000000 := by rw [h.len, List.length_take]; omega
    have q1 : 0 ≤ ((m * 48271 + 11 + (i : Int)) % 2147483647 * 69621 + 3) % 2147483647 := Int.emod_nonneg _ (by decide)
    have q2 : ((m * 48271 + 11 + (i : Int)) % 2147483647 * 69621 + 3) % 2147483647 < 2147483647 := Int.emod_lt_of_pos _ (by decide)
    have q3 : 0 ≤ (m * 48271 + 11 + (i : Int)) % 2147483647 := Int.emod_nonneg _ (by decide)
    have q4 : (m * 48271 + 11 + (i : Int)) % 2147483647 < 2147483647 := Int.emod_lt_of_pos _ (by decide)
    have et : sizes.take (i + 1) = sizes.take i ++ [sizes[i]] := by rw [List.take_add_one, List.getElem?_eq_getElem hi]; rfl
    obtain ⟨ds', m', j7', e1, d1⟩ := draw_near sizes hs a b j3 j5 n (i + 1) (ds ++ [((m * 48271 + 11 + (i : Int)) % 2147483647 * 69621 + 3) % 2147483647 / 7 % sizes[i]]) (((m * 48271 + 11 + (i : Int)) % 2147483647 * 69621 + 3) % 2147483647) (some (.d (.int i))) (by omega)
      (by rw [et]; exact h.snoc (Int.emod_nonneg _ (by omega)) (Int.emod_lt_of_pos _ hx.1)) hl q1 q2
    refine ⟨ds', m', j7', ?_, d1⟩
    rw [List.range'_succ, List.map_cons, loopF_cons]
    have b1 : m.natAbs < 18446744073709551616 := by omega
    have b2 : ((m * 48271 + 11 + (i : Int)) % 2147483647).natAbs < 18446744073709551616 := by omega
    have ea : atI (sizes.map PyData.int) (i : Int) = some (.int sizes[i]) := by rw [atI_lt (by omega) (by simpa using hi)]; simp [hi]
    simp [e_app, e_V, hlen, ea, hx, b1, b2]
    simpa using e1
def drawTail : VEnv → Out := (sSeq (sSet 4 (cA gList aN))
    (sSeq (sIf (cB (c2 gGe (cV 3) (c2 gPow (cC (.int 10)) (cC (.int 18))))) (sSeq (sSet 3 (c2 gSub (cV 3) (c2 gPow (cC (.int 10)) (cC (.int 18)))))
    (sSeq (sFor (.nm 5) (iL (cV 2)) (sSeq (sApp 4 (c2 gMod (cV 3) (cV 5)))
    (sSet 3 (c2 gDiv (cV 3) (cV 5)))))
    (sRetV 4))) sNil)
    (sSeq (sSet 6 (c2 gMod (c2 gAdd (c2 gAdd (cV 3) (cC (.int 1))) (c2 gMul (cC (.int 31)) (cV 1))) (cC (.int 2147483647))))
    (sSeq (sFor (.nm 7) (iR gR1 (aC (cA gLen (aC (cV 2) aN)) aN)) (sSeq (sSet 6 (c2 gMod (c2 gAdd (c2 gAdd (c2 gMul (cV 6) (cC (.int 48271))) (cC (.int 11))) (cV 7)) (cC (.int 2147483647))))
    (sSeq (sSet 6 (c2 gMod (c2 gAdd (c2 gMul (cV 6) (cC (.int 69621))) (cC (.int 3))) (cC (.int 2147483647))))
    (sApp 4 (c2 gMod (c2 gDiv (cV 6) (cC (.int 7))) (c2 gIx (cV 2) (cV 7)))))))
    (sRetV 4)))))
theorem draw_far' (ns : List Int) (k : Nat) (sizes : List Int) (hs : Sizes sizes) (hl : sizes.length ≤ 1000) (c : Int) (hf : 1000000000000000000 ≤ c) :
    ∃ ds : List Int, drawTail [some (.sc ns), some (.d (.int k)), some (.d (.list (sizes.map .int))), some (.d (.int c)), none, none, none, none] = .rt (.ol (ds.map .int)) ∧ Drawn sizes ds := by
  obtain ⟨ds', c', j5', e1, d1⟩ := draw_far sizes hs (.sc ns) (.d (.int k)) (.list (sizes.map .int)) sizes [] [] (c - 1000000000000000000) none none none (by simp) ⟨rfl, fun i h => by simp at h, fun i h => by simp at h⟩ hl (by omega)
  refine ⟨ds', ?_, d1⟩
  simp at e1
  unfold drawTail
  simp [e_V, hf, e1, e_retV]
theorem mix_ok (ns : List Int) (k : Nat) (sizes : List Int) (c : Int) : sSet 6 (c2 gMod (c2 gAdd (c2 gAdd (cV 3) (cC (.int 1))) (c2 gMul (cC (.int 31)) (cV 1))) (cC (.int 2147483647))) [some (.sc ns), some (.d (.int k)), some (.d (.list (sizes.map .int))), some (.d (.int c)), some (.ol []), none, none, none]
      = .nx [some (.sc ns), some (.d (.int k)), some (.d (.list (sizes.map .int))), some (.d (.int c)), some (.ol []), none, some (.d (.int ((c + 1 + 31 * (k : Int)) % 2147483647))), none] := by
  simp only [e_set, e_c2, e_V, List.getElem?_cons_zero, List.getElem?_cons_succ, Rs.bind_ok, e_bor1, e_cC, e_addI]
  rw [e_mul, if_pos (Or.inl (by decide))]
  simp only [Rs.bind_ok, e_addI]
  rw [e_mod, if_pos (by decide)]
  simp only [Rs.out_ok, e_putd]
  rw [if_pos (by show 6 < 8; decide)]
  rfl
theorem draw_near' (ns : List Int) (k : Nat) (sizes : List Int) (hs : Sizes sizes) (hl : sizes.length ≤ 1000) (c : Int) (hf : ¬ 1000000000000000000 ≤ c) :
    ∃ ds : List Int, drawTail [some (.sc ns), some (.d (.int k)), some (.d (.list (sizes.map .int))), some (.d (.int c)), none, none, none, none] = .rt (.ol (ds.map .int)) ∧ Drawn sizes ds := by
  obtain ⟨m, hm⟩ : ∃ m, m = (c + 1 + 31 * (k : Int)) % 2147483647 := ⟨_, rfl⟩
  have m0 : 0 ≤ m := by rw [hm]; exact Int.emod_nonneg _ (by decide)
  have m1 : m < 2147483647 := by rw [hm]; exact Int.emod_lt_of_pos _ (by decide)
  have hset := mix_ok ns k sizes c
  rw [← hm] at hset
  clear hm
  obtain ⟨ds', m', j7', e1, d1⟩ := draw_near sizes hs (.sc ns) (.d (.int k)) (some (.d (.int c))) none sizes.length 0 [] m none (by omega) ⟨rfl, fun i h => by simp at h, fun i h => by simp at h⟩ hl m0 m1
  refine ⟨ds', ?_, d1⟩
  rw [← List.range_eq_range', ← rngL_eq] at e1
  have hr : iR gR1 (aC (cA gLen (aC (cV 2) aN)) aN) [some (.sc ns), some (.d (.int k)), some (.d (.list (sizes.map .int))), some (.d (.int c)), some (.ol []), none, some (.d (.int m)), none] = .ok (rngL 0 sizes.length) := by
    have b1 : (sizes.map PyData.int).length ≤ 1000000 := by rw [List.length_map]; omega
    have := e_R1n b1
    rw [List.length_map] at this
    simp only [e_iR, e_aC, e_cA, e_aN, e_V, List.getElem?_cons_succ, List.getElem?_cons_zero, Rs.bind_ok, e_bor1, e_lenL, List.length_map]
    exact this
  have hc : cB (c2 gGe (cV 3) (c2 gPow (cC (.int 10)) (cC (.int 18)))) [some (.sc ns), some (.d (.int k)), some (.d (.list (sizes.map .int))), some (.d (.int c)), some (.ol []), none, none, none] = .ok false := by
    simp [e_V, hf]
  have h4 : sSet 4 (cA gList aN) [some (.sc ns), some (.d (.int k)), some (.d (.list (sizes.map .int))), some (.d (.int c)), none, none, none, none] = .nx [some (.sc ns), some (.d (.int k)), some (.d (.list (sizes.map .int))), some (.d (.int c)), some (.ol []), none, none, none] := by simp
  unfold drawTail
  rw [e_seq, h4, Out.then_nx, e_seq, e_if, hc]
  simp only [Rs.out_ok, Bool.false_eq_true, if_false, e_nil, Out.then_nx]
  rw [e_seq, hset, Out.then_nx, e_seq, e_for, hr]
  simp only [Rs.out_ok]
  rw [show ([] : List PyData) = ([] : List Int).map .int from rfl, e1]
  simp [e_retV]
theorem draw_ok (ns : List Int) (k : Nat) (sizes : List Int) (hs : Sizes sizes) (hl : sizes.length ≤ 1000) : ∃ ds : List Int, F__law_draw [.sc ns, .d (.int k), .d (.list (sizes.map .int))] = .ok (.ol (ds.map .int)) ∧ Drawn sizes ds := by
  have eb : B__law_draw = sSeq (sSet 3 (cA (fun rs => if rs.length = 2 then F__law_cell (rs.map RV.arg) else .no) (aC (cV 0) (aC (cV 1) aN))))
    (sSeq (sIf (cB (c2 gLt (cV 3) (cC (.int 0)))) (sSet 3 (c1 gNeg (cV 3))) sNil) drawTail) := rfl
  unfold F__law_draw fnD
  rw [eb]
  have hc := cell_ok ns k
  generalize cell ns k = c at hc
  have step : ∀ c : Int, ∃ ds : List Int, drawTail [some (.sc ns), some (.d (.int k)), some (.d (.list (sizes.map .int))), some (.d (.int c)), none, none, none, none] = .rt (.ol (ds.map .int)) ∧ Drawn sizes ds := fun c => by
    by_cases hf : (1000000000000000000 : Int) ≤ c
    · exact draw_far' ns k sizes hs hl c hf
    · exact draw_near' ns k sizes hs hl c hf
  simp [e_V, hc]
  by_cases hn : c < 0
  · obtain ⟨ds, e1, d1⟩ := step (-c)
    refine ⟨ds, ?_, d1⟩
    simp [hn, e_V, e1]
  · obtain ⟨ds, e1, d1⟩ := step c
    refine ⟨ds, ?_, d1⟩
    simp [hn, e_V, e1]
theorem loopF_ex {β : Type} {tg : Tg} {f : VEnv → Out} (R : Nat → VEnv → Prop) (emb : β → PyData) (xs : List β) (env : VEnv)
    (h : ∀ i env x, xs[i]? = some x → R i env → ∃ e1, tgE tg (emb x) env = some e1 ∧ ∃ env', (f e1 = .nx env' ∨ f e1 = .ct env') ∧ R (i + 1) env') (h0 : R 0 env) : ∃ env', loopF tg f (xs.map emb) env = .nx env' ∧ R xs.length env' := by
  obtain ⟨env', e, r⟩ := loopF_rel (α := Unit) (fun i _ env => R i env) emb (fun _ _ => ()) xs () env (fun i _ env x hx r => h i env x hx r) h0
  exact ⟨env', e, r⟩
def natI (k : Nat) : PyData := .int (k : Int)
theorem rng_nat (n : Nat) : rngL 0 n = (List.range n).map natI := rngL_eq n
structure Asc (b : Int) (xs : List Int) : Prop where
  up : xs.Pairwise (· < ·)
  lo : ∀ x ∈ xs, 0 ≤ x
  hi : ∀ x ∈ xs, x < b
theorem Asc.nil (b : Int) : Asc b [] := ⟨.nil, by simp, by simp⟩
theorem Asc.snoc {b x : Int} {xs : List Int} (h : Asc x xs) (h0 : 0 ≤ x) (h1 : x < b) : Asc b (xs ++ [x]) :=
  ⟨List.pairwise_append.mpr ⟨h.up, List.pairwise_singleton _ _, fun y hy z hz => by rw [List.mem_singleton.mp hz]; exact h.hi y hy⟩,
    fun y hy => by rcases List.mem_append.mp hy with z | z; exact h.lo y z; rw [List.mem_singleton.mp z]; exact h0,
    fun y hy => by rcases List.mem_append.mp hy with z | z; (have := h.hi y z; omega); rw [List.mem_singleton.mp z]; exact h1⟩
theorem Asc.mono {b c : Int} {xs : List Int} (h : Asc b xs) (e : b ≤ c) : Asc c xs := ⟨h.up, h.lo, fun x hx => Int.lt_of_lt_of_le (h.hi x hx) e⟩
theorem Asc.len {b : Nat} : ∀ {xs : List Int}, Asc b xs → xs.length ≤ b := by
  induction b with
  | zero => intro xs h; cases xs with
    | nil => simp
    | cons x xs => have := h.lo x List.mem_cons_self; have := h.hi x List.mem_cons_self; omega
  | succ b ih =>
    intro xs h
    rcases List.eq_nil_or_concat xs with rfl | ⟨ys, y, rfl⟩
    · simp
    · rw [List.concat_eq_append] at h ⊢
      have hu := List.pairwise_append.mp h.up
      have : Asc (b : Int) ys := ⟨hu.1, fun z hz => h.lo z (List.mem_append_left _ hz), fun z hz => by
        have h1 := hu.2.2 z hz y (List.mem_singleton.mpr rfl)
        have h2 := h.hi y (List.mem_append_right _ (List.mem_singleton.mpr rfl))
        omega⟩
      have := ih this
      simp
      omega
theorem drawn_at {sizes ds : List Int} (h : Drawn sizes ds) {i : Nat} {s : Int} (hi : sizes[i]? = some s) : ∃ d, ds[i]? = some d ∧ 0 ≤ d ∧ d < s := by
  obtain ⟨h1, h2⟩ := List.getElem?_eq_some_iff.mp hi
  have h3 : i < ds.length := by rw [h.len]; exact h1
  exact ⟨ds[i], List.getElem?_eq_getElem h3, h.lo i h3, by rw [← h2]; exact h.hi i h3 h1⟩
theorem range_at {n i x : Nat} (h : (List.range n)[i]? = some x) : x = i ∧ i < n := by
  have hi : i < n := by simpa using (List.getElem?_eq_some_iff.mp h).1
  rw [List.getElem?_range hi] at h
  exact ⟨(Option.some.inj h).symm, hi⟩
theorem draw_nat (ns : List Int) (k : Nat) (sz : List Nat) (hs : ∀ s ∈ sz, 0 < s ∧ s < 1000000) (hl : sz.length ≤ 1000) : ∃ nd : List Nat, F__law_draw [.sc ns, .d (.int k), .d (.list (sz.map natI))] = .ok (.ol (nd.map natI)) ∧ nd.length = sz.length ∧ ∀ (i s : Nat), sz[i]? = some s → ∃ d, nd[i]? = some d ∧ d < s := by
  obtain ⟨ds, e, dr⟩ := draw_ok ns k (sz.map fun n : Nat => (n : Int)) (by
    intro s hs'
    obtain ⟨n, hn, rfl⟩ := List.mem_map.mp hs'
    have := hs n hn
    omega) (by simpa using hl)
  have el : ds.length = sz.length := by have := dr.len; simpa using this
  have eds : ds = (ds.map Int.toNat).map fun n : Nat => (n : Int) := by
    rw [List.map_map]
    refine (List.map_id _).symm.trans (List.map_congr_left fun x hx => ?_)
    obtain ⟨i, hi, rfl⟩ := List.getElem_of_mem hx
    have := dr.lo i hi
    show ds[i] = ((ds[i].toNat : Nat) : Int)
    omega
  have m1 : (sz.map fun n : Nat => (n : Int)).map PyData.int = sz.map natI := by rw [List.map_map]; rfl
  have m2 : ds.map PyData.int = (ds.map Int.toNat).map natI := by
    conv => lhs; rw [eds]
    rw [List.map_map]; rfl
  rw [m1, m2] at e
  refine ⟨ds.map Int.toNat, e, by simpa using el, fun i s hi => ?_⟩
  obtain ⟨d, q1, q2, q3⟩ := drawn_at dr (i := i) (s := (s : Int)) (by rw [List.getElem?_map, hi]; rfl)
  exact ⟨d.toNat, by rw [List.getElem?_map, q1]; rfl, by omega⟩
theorem atI_nats {ds : List Nat} {i d : Nat} (h : ds[i]? = some d) : atI (ds.map natI) (i : Int) = some (natI d) := by
  rw [atI_lt (by omega) (by simpa using (List.getElem?_eq_some_iff.mp h).1)]
  simp [h]
def numS (n : Nat) : Str := Str.ofString (toString (n : Int))
def lx (c : Str) (n : Nat) : Str := c ++ numS n
theorem num_l (n : Nat) : (numS n).cps.toList = numL n := tl_num n
theorem num_len {n : Nat} (h : n < 100000) : (numS n).length ≤ 5 := by
  have e : (numS n).length = (numL n).length := by rw [← num_l n]; rfl
  rw [e]
  exact numL_len (by decide) (by simpa using h)
theorem log_ok (n : Nat) (h : n < 100000) : ((n : Int)).natAbs.log2 < 1920 := by
  have h1 : ((n : Int)).natAbs = n := rfl
  rw [h1]
  by_cases h0 : n = 0
  · subst h0; decide
  · exact (Nat.log2_lt h0).mpr (Nat.lt_of_lt_of_le h (by decide))
theorem str_ok {n : Nat} (h : n < 100000) : gStr [.d (.int n)] = .ok (.d (.str (numS n))) := if_pos (log_ok n h)
theorem int_ok {n : Nat} (h : n < 100000) : gInt [.d (.str (numS n))] = .ok (.d (.int n)) := by
  have e : PySem.intText? (numS n) = some (n : Int) := int_num (Nat.le_trans (numL_len (k := 5) (by decide) (by simpa using h)) (by decide))
  show (rsO (PySem.intText? (numS n))).bind _ = _
  rw [e]
  have := num_len h
  simp only [rsO_some, Rs.bind_ok]
  rw [if_pos (by omega)]
  rfl
theorem app_l (a b : Str) : (a ++ b).cps.toList = a.cps.toList ++ b.cps.toList := by
  show (a.cps ++ b.cps).toList = _
  simp
theorem str_ext {a b : Str} (h : a.cps.toList = b.cps.toList) : a = b := by
  cases a; cases b
  congr 1
  exact Array.toList_inj.mp h
structure Letter (c : Str) (k : Nat) : Prop where
  l : c.cps.toList = [k]
theorem let_x : Letter "x" 120 := ⟨by decide +kernel⟩
theorem let_r : Letter "r" 114 := ⟨by decide +kernel⟩
theorem let_s : Letter "s" 115 := ⟨by decide +kernel⟩
theorem Letter.eq {c : Str} {k : Nat} (h : Letter c k) : c = ⟨#[k]⟩ := str_ext h.l
theorem Letter.len {c : Str} {k : Nat} (h : Letter c k) : c.length = 1 := by
  have : c.length = c.cps.toList.length := by show c.cps.size = _; simp
  rw [this, h.l]; rfl
theorem lx_l {c : Str} {k : Nat} (h : Letter c k) (n : Nat) : (lx c n).cps.toList = k :: numL n := by
  unfold lx
  rw [app_l, h.l, num_l]; rfl
theorem lx_len {c : Str} {k : Nat} (h : Letter c k) {n : Nat} (hn : n < 100000) : (lx c n).length ≤ 6 := by
  have e : (lx c n).length = (lx c n).cps.toList.length := by show (lx c n).cps.size = _; simp
  have := numL_len (n := n) (k := 5) (by decide) (by simpa using hn)
  rw [e, lx_l h]
  simp
  exact this
theorem lx_head {c : Str} {k : Nat} (h : Letter c k) {n : Nat} (hn : n < 100000) : gIx (.d (.str (lx c n))) (.d (.int 0)) = .ok (.d (.str c)) := by
  have := lx_len h hn
  rw [e_ixS, if_pos (by omega), lx_l h, atI_zero]
  rw [h.eq]; rfl
theorem num_head {n : Nat} (hn : n < 100000) : ∃ d, 48 ≤ d ∧ d ≤ 57 ∧ gIx (.d (.str (numS n))) (.d (.int 0)) = .ok (.d (.str ⟨#[d]⟩)) := by
  have h1 := num_len hn
  have h2 := numL_digits n
  have h3 := numL_ne n
  rw [e_ixS, if_pos (by omega), num_l]
  cases e : numL n with
  | nil => exact absurd e h3
  | cons d ds =>
    have := h2 d (by rw [e]; exact List.mem_cons_self)
    exact ⟨d, by omega, by omega, by rw [atI_zero]; rfl⟩
theorem one_ne {a b : Nat} (h : a ≠ b) : (⟨#[a]⟩ : Str) ≠ ⟨#[b]⟩ := fun e => h (by injection e with e; simpa using e)
theorem lx_tail {c : Str} {k : Nat} (h : Letter c k) {n : Nat} (hn : n < 100000) : gSl (.d (.str (lx c n))) (some 1) none = .ok (.d (.str (numS n))) := by
  have hl := lx_len h hn
  have e : (lx c n).length = (numL n).length + 1 := by
    have : (lx c n).length = (lx c n).cps.toList.length := by show (lx c n).cps.size = _; simp
    rw [this, lx_l h]; rfl
  show (if (lx c n).length ≤ 1000000 then Rs.ok (RV.d (.str (cutS (lx c n) (some 1) none))) else .no) = _
  rw [if_pos (by omega)]
  congr 3
  apply str_ext
  unfold cutS
  have e1 : HT.sIx (lx c n).length 0 (some 1) = 1 := by
    rw [show (1 : Int) = ((1 : Nat) : Int) from rfl, HT.sIx_nat]; omega
  rw [e1, HT.sIx_none, e, lx_l h, num_l]
  simp
@[simp] theorem eqv_str (a b : Str) : PyData.eqv (.str a) (.str b) = decide (a = b) := by
  rw [PyData.eqv]
  by_cases h : a = b <;> simp [h]
structure Nice (k : Nat) (d : PyData) : Prop where
  lay : d.canLay0 = true
  dep : d.depth ≤ k
theorem nice_all {k : Nat} : ∀ {ds : List PyData}, (∀ d ∈ ds, Nice k d) → PyData.canLayAll0 ds = true ∧ PyData.depthAll ds ≤ k
  | [], _ => ⟨rfl, Nat.zero_le _⟩
  | d :: ds, h => by
    obtain ⟨h1, h2⟩ := nice_all fun x hx => h x (List.mem_cons_of_mem _ hx)
    have h3 := h d List.mem_cons_self
    refine ⟨?_, ?_⟩
    · show (PyData.canLay0 d && PyData.canLayAll0 ds) = true
      rw [h3.lay, h1]; rfl
    · show max d.depth (PyData.depthAll ds) ≤ k
      have := h3.dep
      omega
theorem Nice.tup {k : Nat} {ds : List PyData} (h : ∀ d ∈ ds, Nice k d) : Nice (k + 1) (.tuple ds) := ⟨(nice_all h).1, Nat.succ_le_succ (nice_all h).2⟩
theorem Nice.lst {k : Nat} {ds : List PyData} (h : ∀ d ∈ ds, Nice k d) : Nice (k + 1) (.list ds) := ⟨(nice_all h).1, Nat.succ_le_succ (nice_all h).2⟩
theorem Nice.int (k : Nat) (i : Int) : Nice k (.int i) := ⟨rfl, Nat.zero_le _⟩
theorem Nice.bool (k : Nat) (i : Bool) : Nice k (.bool i) := ⟨rfl, Nat.zero_le _⟩
theorem Nice.none (k : Nat) : Nice k .none := ⟨rfl, Nat.zero_le _⟩
theorem Nice.str (k : Nat) {s : Str} (h : PyData.strOk s = true) : Nice k (.str s) := ⟨h, Nat.zero_le _⟩
theorem Nice.shaped {k : Nat} {d : PyData} (h : Nice k d) (hk : k ≤ 64) : SeqAt.shaped d = true := by
  unfold SeqAt.shaped
  rw [h.lay, decide_eq_true (Nat.le_trans h.dep hk)]
  rfl
theorem Nice.refl {k : Nat} {d : PyData} (h : Nice k d) : PyData.eqv d d = true := SeqAt.eqv_refl d h.lay
theorem ok_of {s : Str} (h : ∀ c ∈ s.cps.toList, c < 200) : PyData.strOk s = true := by
  unfold PyData.strOk
  rw [Array.all_eq_true']
  intro c hc
  have := h c (by simpa using hc)
  simp
  omega
theorem num_strOk (n : Nat) : PyData.strOk (numS n) = true := ok_of fun c hc => by
  rw [num_l] at hc
  have := numL_digits n c hc
  omega
theorem lx_strOk {c : Str} {k : Nat} (h : Letter c k) (hk : k < 200) (n : Nat) : PyData.strOk (lx c n) = true := ok_of fun d hd => by
  rw [lx_l h] at hd
  rcases List.mem_cons.mp hd with rfl | hd
  · exact hk
  · have := numL_digits n d hd
    omega
inductive Src where
  | x (i : Nat) | r (i : Nat) | c (n : Nat)
def Src.str : Src → Str
  | .x i => lx "x" i
  | .r i => lx "r" i
  | .c n => numS n
def Src.ok (n : Nat) : Src → Prop
  | .x i => i < n ∧ i < 100000
  | .r i => i < 8
  | .c k => k < 100000
def Src.val (ins regs : List Int) : Src → Int
  | .x i => ins.getD i 0
  | .r i => regs.getD i 0
  | .c n => n
theorem Src.strOk (s : Src) : PyData.strOk s.str = true := by
  cases s with
  | x i => exact lx_strOk let_x (by decide) i
  | r i => exact lx_strOk let_r (by decide) i
  | c n => exact num_strOk n
def Ls (a : RV) (xs : List Int) : Prop := a = .d (.list (xs.map .int)) ∨ a = .bl (xs.map .int)
theorem sh_str {s : Str} (h : PyData.strOk s = true) : SeqAt.shaped (.str s) = true := (Nice.str 0 h).shaped (by decide)
theorem digit_ne {d k : Nat} {c : Str} (h : Letter c k) (h1 : d ≤ 57) (h2 : 57 < k) : ((⟨#[d]⟩ : Str) = c) = False := by
  rw [h.eq]; simp; omega
theorem digit_ok {d : Nat} (h1 : d ≤ 57) : PyData.strOk ⟨#[d]⟩ = true := ok_of fun c hc => by simp at hc; omega
theorem letx_ok : PyData.strOk "x" = true := by decide +kernel
theorem lets_ok : PyData.strOk "s" = true := by decide +kernel
inductive Op where
  | add | sub | mul
def Op.str : Op → Str
  | .add => "+"
  | .sub => "-"
  | .mul => "*"
theorem op_ok (o : Op) : PyData.strOk o.str = true := by cases o <;> decide +kernel
structure Ins where
  reg : Nat
  neg : Bool
  op : Op
  l : Src
  r : Src
def Ins.sgn (i : Ins) : Str := if i.neg then "-" else "+"
def Ins.d (i : Ins) : PyData := .tuple [.int i.reg, .str i.sgn, .str i.op.str, .str i.l.str, .str i.r.str]
structure Ins.ok (n : Nat) (i : Ins) : Prop where
  reg : i.reg < 8
  l : i.l.ok n
  r : i.r.ok n
structure Regs (m : Int) (xs : List Int) : Prop where
  all : ∀ x ∈ xs, 0 ≤ x ∧ x < m
theorem Regs.at {m : Int} {xs : List Int} (h : Regs m xs) (i : Nat) (hm : 0 < m) : 0 ≤ xs.getD i 0 ∧ xs.getD i 0 < m := by
  by_cases hi : i < xs.length
  · have : xs.getD i 0 = xs[i] := by simp [hi]
    rw [this]; exact h.all _ (List.getElem_mem hi)
  · have : xs.getD i 0 = 0 := by simp [hi]
    omega
theorem Ls.arg {a : RV} {xs : List Int} (h : Ls a xs) : a.bor.arg = a := by rcases h with rfl | rfl <;> rfl
theorem Ls.list {a : RV} {xs : List Int} (h : Ls a xs) : gListC [a.bor] = .ok (.ol (xs.map .int)) := by rcases h with rfl | rfl <;> rfl
def progD (m n : Int) (st out : PyData) : PyData := .tuple [.int m, .int n, st, out]
inductive Opd where
  | x (i : Nat) | s (k : Nat) | c (v : Nat)
def Opd.str : Opd → Str
  | .x i => lx "x" i
  | .s k => lx "s" k
  | .c v => numS v
def Opd.ok (n many m : Nat) : Opd → Prop
  | .x i => i < n
  | .s k => k < many
  | .c v => v < m
theorem Opd.strOk (o : Opd) : PyData.strOk o.str = true := by
  cases o with
  | x i => exact lx_strOk let_x (by decide) i
  | s k => exact lx_strOk let_s (by decide) k
  | c v => exact num_strOk v
theorem str_len1 {c : Str} {k : Nat} (h : Letter c k) {n : Nat} (hn : n < 100000) : c.length + (numS n).length ≤ 1000000 := by
  have := h.len; have := num_len hn; omega
theorem add_lx {c : Str} {k : Nat} (h : Letter c k) {n : Nat} (hn : n < 100000) : gAdd (.d (.str c)) (.d (.str (numS n))) = .ok (.d (.str (lx c n))) := by
  rw [e_addS, if_pos (str_len1 h hn)]
  rfl
def opN : Nat → Op
  | 0 => .add
  | 1 => .sub
  | _ => .mul
theorem ops_ix (r : Nat) (h : r < 3) : gIx (.d (.str "+-*")) (.d (.int r)) = .ok (.d (.str (opN r).str)) := by
  have key : ∀ (r : Nat) (c : Nat) (s : Str), (("+-*" : Str).length ≤ 1000000) → atI ("+-*" : Str).cps.toList (r : Int) = some c → s = ⟨#[c]⟩ → gIx (.d (.str "+-*")) (.d (.int r)) = .ok (.d (.str s)) := fun r c s h1 h2 h3 => by
    rw [e_ixS, if_pos h1, h2, h3]; rfl
  match r, h with
  | 0, _ => exact key 0 43 _ (by decide +kernel) (by decide +kernel) (by decide +kernel)
  | 1, _ => exact key 1 45 _ (by decide +kernel) (by decide +kernel) (by decide +kernel)
  | 2, _ => exact key 2 42 _ (by decide +kernel) (by decide +kernel) (by decide +kernel)
structure Stp where
  op : Op
  l : Opd
  r : Opd
def Stp.d (s : Stp) : PyData := .tuple [.str s.op.str, .str s.l.str, .str s.r.str]
theorem Stp.nice (s : Stp) : Nice 1 s.d := Nice.tup fun d hd => by
  simp at hd
  rcases hd with rfl | rfl | rfl
  · exact Nice.str 0 (op_ok _)
  · exact Nice.str 0 (Opd.strOk _)
  · exact Nice.str 0 (Opd.strOk _)
theorem stps_nice (ss : List Stp) : Nice 2 (.list (ss.map Stp.d)) := Nice.lst fun d hd => by
  obtain ⟨s, _, rfl⟩ := List.mem_map.mp hd
  exact s.nice
def StpsOk (m n : Nat) (ss : List Stp) : Prop := ∀ (k : Nat) (s : Stp), ss[k]? = some s → s.l.ok n k m ∧ s.r.ok n k m
theorem Opd.mono {n a b m : Nat} (h : a ≤ b) : ∀ {o : Opd}, o.ok n a m → o.ok n b m
  | .x _, h' => h'
  | .s _, h' => Nat.lt_of_lt_of_le h' h
  | .c _, h' => h'
theorem sh_natsL (os : List Nat) : SeqAt.shaped (.list (os.map natI)) = true := by
  have := sh_lst (os.map fun n : Nat => (n : Int))
  rwa [List.map_map] at this
theorem StpsOk.snoc {m n : Nat} {ss : List Stp} (h : StpsOk m n ss) {s : Stp} (hl : s.l.ok n ss.length m) (hr : s.r.ok n ss.length m) : StpsOk m n (ss ++ [s]) := by
  intro k s' hk
  rcases Nat.lt_trichotomy k ss.length with h' | h' | h'
  · exact h k s' (by rwa [List.getElem?_append_left h'] at hk)
  · subst h'
    rw [List.getElem?_append_right (Nat.le_refl _), Nat.sub_self] at hk
    cases hk
    exact ⟨hl, hr⟩
  · rw [List.getElem?_eq_none (by simp; omega)] at hk
    cases hk
theorem Nice.up {k l : Nat} {d : PyData} (h : Nice k d) (hl : k ≤ l) : Nice l d := ⟨h.1, Nat.le_trans h.2 hl⟩
def Opd.small : Opd → Prop
  | .x i => i < 100000
  | .s k => k < 100000
  | .c v => v < 100000
theorem Opd.ok.small {n many m : Nat} (hn : n ≤ 100000) (h2 : many ≤ 100000) (h3 : m ≤ 100000) {o : Opd} (h : o.ok n many m) : o.small := by
  cases o with
  | x i => exact Nat.lt_of_lt_of_le h hn
  | s k => exact Nat.lt_of_lt_of_le h h2
  | c v => exact Nat.lt_of_lt_of_le h h3
theorem cut_pre {α : Type} (xs : List α) (k : Nat) (h : k ≤ xs.length) : cutL xs none (some (k : Int)) = xs.take k := by
  unfold cutL
  rw [HT.sIx_nat]
  show (xs.drop 0).take _ = _
  rw [List.drop_zero, Nat.min_eq_left h]
  rfl
theorem cut_suf {α : Type} (xs : List α) (k : Nat) (h : k ≤ xs.length) : cutL xs (some (k : Int)) none = xs.drop k := by
  unfold cutL
  rw [HT.sIx_nat]
  have h0 : HT.sIx xs.length xs.length none = xs.length := rfl
  rw [h0, Nat.min_eq_left h]
  exact List.take_of_length_le (by rw [List.length_drop]; omega)
theorem str_size (s : Str) : s.length = s.cps.toList.length := by
  show s.cps.size = _
  simp
def digS : Str := "0123456789"
theorem digS_l : digS.cps.toList = [48, 49, 50, 51, 52, 53, 54, 55, 56, 57] := by decide +kernel
theorem dig_iff (c : Nat) : (c ∈ digS.cps.toList) ↔ 48 ≤ c ∧ c ≤ 57 := by
  rw [digS_l]
  simp
  omega
theorem numL_head : ∀ (n : Nat), 10 ≤ n → ∃ d r, numL n = d :: r ∧ d ≠ 48 := by
  intro n
  induction n using Nat.strongRecOn with
  | _ n ih =>
    intro h
    rw [numL_step h]
    by_cases h2 : n / 10 < 10
    · rw [numL_lt h2]
      refine ⟨48 + n / 10, [48 + n % 10], rfl, ?_⟩
      omega
    · obtain ⟨d, r, e, hd⟩ := ih (n / 10) (by omega) (by omega)
      rw [e]
      exact ⟨d, r ++ [48 + n % 10], rfl, hd⟩
theorem numL_one {n : Nat} (h : n < 10) : (numL n).length = 1 := by rw [numL_lt h]; rfl
theorem num_size (n : Nat) : (numS n).length = (numL n).length := by rw [str_size, num_l]
theorem ix0_str {s : Str} {d : Nat} {r : List Nat} (h : s.cps.toList = d :: r) (hl : s.length ≤ 1000000) : gIx (.d (.str s)) (.d (.int 0)) = .ok (.d (.str ⟨#[d]⟩)) := by
  rw [e_ixS, if_pos hl, h, atI_zero]
  rfl
theorem zero_str : ("0" : Str) = ⟨#[48]⟩ := str_ext (by decide +kernel)
theorem one_ok {d : Nat} (h : d < 200) : PyData.strOk ⟨#[d]⟩ = true := ok_of fun c hc => by simp at hc; omega
theorem number_num {n : Nat} (h : n < 100000) : F_number_of [.d (.str (numS n))] = .ok (.d (.int (n : Int))) := by
  have hl := num_len h
  have hz : (numS n).length ≤ 1000000 := by omega
  have hs := num_size n
  have hne : 1 ≤ (numS n).length := by
    rw [hs]
    exact List.length_pos_iff.mpr (numL_ne n)
  have d1 : decide ((1 : Int) ≤ ((numS n).length : Int)) = true := decide_eq_true (by omega)
  have d2 : decide (((numS n).length : Int) ≤ 6) = true := decide_eq_true (by omega)
  have al : ((numS n).cps.toList.all fun b => decide (b ∈ digS.cps.toList)) = true := by
    rw [List.all_eq_true]
    intro b hb
    rw [num_l] at hb
    exact decide_eq_true ((dig_iff b).mpr (numL_digits n b hb))
  have gi := int_ok h
  have gl : gLen [.d (.str (numS n))] = .ok (.d (.int ((numS n).length : Int))) := by rw [e_lenS, if_pos hz]
  have ac : cAllC digS (cV 0) [some (.d (.str (numS n)))] = .ok (.d (.bool true)) := by
    rw [e_allC]
    show Rs.ok (RV.d (.bool ((numS n).cps.toList.all fun b => decide (b ∈ digS.cps.toList)))) = _
    rw [al]
  have ac : cAllC "0123456789" (cV 0) [some (.d (.str (numS n)))] = .ok (.d (.bool true)) := ac
  show (B_number_of [some (.d (.str (numS n)))]).fin = _
  unfold B_number_of
  by_cases c : n < 10
  · have d3 : decide (((numS n).length : Int) > 1) = false := decide_eq_false (by rw [hs, numL_one c]; decide)
    generalize numS n = W at *
    simp only [VT, oS, List.getElem?_cons_zero, List.getElem?_cons_succ, List.set_cons_succ, List.set_cons_zero, List.length_cons, List.length_nil, Nat.reduceAdd, Nat.reduceLT, Nat.reduceLeDiff, Nat.reduceEqDiff, if_true, if_false, List.map_cons, List.map_nil, Option.map_some, reduceIte, Option.bind_some, Option.bind_none, List.append_nil, List.nil_append, List.cons_append, beq_self_eq_true, gl, d1, d2, ac, d3, gi]
  · obtain ⟨d, r, e, hd⟩ := numL_head n (by omega)
    have dd := numL_digits n d (by rw [e]; exact List.mem_cons_self)
    have ix := ix0_str (s := numS n) (by rw [num_l]; exact e) hz
    have s1 := sh_str (one_ok (d := d) (by omega))
    have s2 := sh_str (one_ok (d := 48) (by omega))
    have ev : PyData.eqv (.str ⟨#[d]⟩) (.str ⟨#[48]⟩) = false := by
      rw [eqv_str, decide_eq_false]
      exact one_ne hd
    rw [← zero_str] at s2 ev
    generalize numS n = W at *
    cases d3 : decide ((W.length : Int) > 1) with
    | true => simp only [VT, oS, List.getElem?_cons_zero, List.getElem?_cons_succ, List.set_cons_succ, List.set_cons_zero, List.length_cons, List.length_nil, Nat.reduceAdd, Nat.reduceLT, Nat.reduceLeDiff, Nat.reduceEqDiff, if_true, if_false, List.map_cons, List.map_nil, Option.map_some, reduceIte, Option.bind_some, Option.bind_none, List.append_nil, List.nil_append, List.cons_append, beq_self_eq_true, gl, d1, d2, ac, d3, ix, s1, s2, ev, gi]
    | false => simp only [VT, oS, List.getElem?_cons_zero, List.getElem?_cons_succ, List.set_cons_succ, List.set_cons_zero, List.length_cons, List.length_nil, Nat.reduceAdd, Nat.reduceLT, Nat.reduceLeDiff, Nat.reduceEqDiff, if_true, if_false, List.map_cons, List.map_nil, Option.map_some, reduceIte, Option.bind_some, Option.bind_none, List.append_nil, List.nil_append, List.cons_append, beq_self_eq_true, gl, d1, d2, ac, d3, gi]
theorem number_lx {c : Str} {k : Nat} (hc : Letter c k) (hk : k < 48 ∨ 57 < k) {n : Nat} (h : n < 100000) : F_number_of [.d (.str (lx c n))] = .ok (.d .none) := by
  have hl := lx_len hc h
  have hz : (lx c n).length ≤ 1000000 := by omega
  have hll := lx_l hc n
  have hs : (lx c n).length = (numL n).length + 1 := by rw [str_size, hll]; rfl
  have d1 : decide ((1 : Int) ≤ ((lx c n).length : Int)) = true := decide_eq_true (by omega)
  have d2 : decide (((lx c n).length : Int) ≤ 6) = true := decide_eq_true (by omega)
  have al : ((lx c n).cps.toList.all fun b => decide (b ∈ digS.cps.toList)) = false := by
    rw [hll, List.all_cons, decide_eq_false (fun z => by have := (dig_iff k).mp z; omega), Bool.false_and]
  have gl : gLen [.d (.str (lx c n))] = .ok (.d (.int ((lx c n).length : Int))) := by rw [e_lenS, if_pos hz]
  have ac : cAllC digS (cV 0) [some (.d (.str (lx c n)))] = .ok (.d (.bool false)) := by
    rw [e_allC]
    show Rs.ok (RV.d (.bool ((lx c n).cps.toList.all fun b => decide (b ∈ digS.cps.toList)))) = _
    rw [al]
  have ac : cAllC "0123456789" (cV 0) [some (.d (.str (lx c n)))] = .ok (.d (.bool false)) := ac
  show (B_number_of [some (.d (.str (lx c n)))]).fin = _
  unfold B_number_of
  generalize lx c n = W at *
  simp only [VT, oS, List.getElem?_cons_zero, List.getElem?_cons_succ, List.set_cons_succ, List.set_cons_zero, List.length_cons, List.length_nil, Nat.reduceAdd, Nat.reduceLT, Nat.reduceLeDiff, Nat.reduceEqDiff, if_true, if_false, List.map_cons, List.map_nil, Option.map_some, reduceIte, Option.bind_some, Option.bind_none, List.append_nil, List.nil_append, List.cons_append, beq_self_eq_true, gl, d1, d2, ac]
theorem cut1_str {s : Str} {d : Nat} {r : List Nat} (h : s.cps.toList = d :: r) (hl : s.length ≤ 1000000) : gSl (.d (.str s)) none (some 1) = .ok (.d (.str ⟨#[d]⟩)) := by
  have e : s.length = r.length + 1 := by rw [str_size, h]; rfl
  show (if s.length ≤ 1000000 then Rs.ok (RV.d (.str (cutS s none (some 1)))) else .no) = _
  rw [if_pos hl]
  congr 3
  apply str_ext
  unfold cutS
  have e1 : HT.sIx s.length s.length (some 1) = 1 := by
    rw [show (1 : Int) = ((1 : Nat) : Int) from rfl, HT.sIx_nat]; omega
  rw [e1, HT.sIx_none, h]
  simp
theorem behind_lx {c : Str} {k : Nat} (hc : Letter c k) (hk : k < 200) {n : Nat} (h : n < 100000) : F_number_behind [.d (.str c), .d (.str (lx c n))] = .ok (.d (.int (n : Int))) := by
  have hl := lx_len hc h
  have cu := cut1_str (lx_l hc n) (by omega)
  rw [← hc.eq] at cu
  have s1 := sh_str (one_ok (d := k) hk)
  rw [← hc.eq] at s1
  have ev : PyData.eqv (.str c) (.str c) = true := by rw [eqv_str]; simp
  have tl := lx_tail hc h
  have nn := number_num h
  show (B_number_behind [some (.d (.str c)), some (.d (.str (lx c n)))]).fin = _
  unfold B_number_behind
  generalize lx c n = W at *
  simp only [VT, oS, List.getElem?_cons_zero, List.getElem?_cons_succ, List.set_cons_succ, List.set_cons_zero, List.length_cons, List.length_nil, Nat.reduceAdd, Nat.reduceLT, Nat.reduceLeDiff, Nat.reduceEqDiff, if_true, if_false, List.map_cons, List.map_nil, Option.map_some, reduceIte, Option.bind_some, Option.bind_none, List.append_nil, List.nil_append, List.cons_append, beq_self_eq_true, cu, s1, ev, tl, nn]
theorem behind_no {c : Str} {k d : Nat} {r : List Nat} {s : Str} (hc : Letter c k) (hk : k < 200) (hd : d < 200) (h : s.cps.toList = d :: r) (hl : s.length ≤ 1000000) (hne : d ≠ k) : F_number_behind [.d (.str c), .d (.str s)] = .ok (.d .none) := by
  have cu := cut1_str h hl
  have s1 := sh_str (one_ok (d := k) hk)
  have s2 := sh_str (one_ok (d := d) hd)
  have ev : PyData.eqv (.str ⟨#[d]⟩) (.str ⟨#[k]⟩) = false := by
    rw [eqv_str, decide_eq_false]
    exact one_ne hne
  rw [hc.eq]
  show (B_number_behind [some (.d (.str ⟨#[k]⟩)), some (.d (.str s))]).fin = _
  unfold B_number_behind
  generalize (⟨#[k]⟩ : Str) = CK at *
  generalize (⟨#[d]⟩ : Str) = CD at *
  simp only [VT, oS, List.getElem?_cons_zero, List.getElem?_cons_succ, List.set_cons_succ, List.set_cons_zero, List.length_cons, List.length_nil, Nat.reduceAdd, Nat.reduceLT, Nat.reduceLeDiff, Nat.reduceEqDiff, if_true, if_false, List.map_cons, List.map_nil, Option.map_some, reduceIte, Option.bind_some, Option.bind_none, List.append_nil, List.nil_append, List.cons_append, beq_self_eq_true, cu, s1, s2, ev]
theorem opd_size {o : Opd} (h : o.small) : o.str.length ≤ 6 := by
  cases o with
  | x i => exact lx_len let_x h
  | s i => exact lx_len let_s h
  | c v => have := num_len (n := v) h; exact Nat.le_trans this (by decide)
theorem looks_ok {o : Opd} (h : o.small) : F_looks_like_operand [.d (.str o.str)] = .ok (.d (.bool true)) := by
  have i1 : ∀ n : Int, isNone (.d (.int n)) = false := fun _ => rfl
  have i0 : isNone (.d .none) = true := rfl
  show (B_looks_like_operand [some (.d (.str o.str))]).fin = _
  unfold B_looks_like_operand
  cases o with
  | x i =>
    have p1 : F_number_of [.d (.str (Opd.str (.x i)))] = .ok (.d .none) := number_lx let_x (by decide) h
    have p2 : F_number_behind [.d (.str "x"), .d (.str (Opd.str (.x i)))] = .ok (.d (.int (i : Int))) := behind_lx let_x (by decide) h
    generalize Opd.str (.x i) = W at *
    simp only [VT, oS, List.getElem?_cons_zero, List.getElem?_cons_succ, List.set_cons_succ, List.set_cons_zero, List.length_cons, List.length_nil, Nat.reduceAdd, Nat.reduceLT, Nat.reduceLeDiff, Nat.reduceEqDiff, if_true, if_false, List.map_cons, List.map_nil, Option.map_some, reduceIte, Option.bind_some, Option.bind_none, List.append_nil, List.nil_append, List.cons_append, beq_self_eq_true, p1, p2, i0, i1]
  | s i =>
    have hl := lx_len let_s (n := i) h
    have p1 : F_number_of [.d (.str (Opd.str (.s i)))] = .ok (.d .none) := number_lx let_s (by decide) h
    have p2 : F_number_behind [.d (.str "x"), .d (.str (Opd.str (.s i)))] = .ok (.d .none) := behind_no let_x (by decide) (by decide) (lx_l let_s i) (show (lx "s" i).length ≤ 1000000 by omega) (by decide)
    have p3 : F_number_behind [.d (.str "s"), .d (.str (Opd.str (.s i)))] = .ok (.d (.int (i : Int))) := behind_lx let_s (by decide) h
    generalize Opd.str (.s i) = W at *
    simp only [VT, oS, List.getElem?_cons_zero, List.getElem?_cons_succ, List.set_cons_succ, List.set_cons_zero, List.length_cons, List.length_nil, Nat.reduceAdd, Nat.reduceLT, Nat.reduceLeDiff, Nat.reduceEqDiff, if_true, if_false, List.map_cons, List.map_nil, Option.map_some, reduceIte, Option.bind_some, Option.bind_none, List.append_nil, List.nil_append, List.cons_append, beq_self_eq_true, p1, p2, p3, i0, i1]
  | c v =>
    have p1 : F_number_of [.d (.str (Opd.str (.c v)))] = .ok (.d (.int (v : Int))) := number_num h
    generalize Opd.str (.c v) = W at *
    simp only [VT, oS, List.getElem?_cons_zero, List.getElem?_cons_succ, List.set_cons_succ, List.set_cons_zero, List.length_cons, List.length_nil, Nat.reduceAdd, Nat.reduceLT, Nat.reduceLeDiff, Nat.reduceEqDiff, if_true, if_false, List.map_cons, List.map_nil, Option.map_some, reduceIte, Option.bind_some, Option.bind_none, List.append_nil, List.nil_append, List.cons_append, beq_self_eq_true, p1, i0, i1]
def rdr (m n : Int) (ss : List Stp) (out : PyData) : List (Str × FV) := [("modulus", .d (.int m)), ("inputs", .d (.int n)), ("steps", .ol (ss.map Stp.d)), ("outputs", .d out)]
theorem rn01 : ¬ (("modulus" : Str) = "inputs") := by decide +kernel
theorem rn02 : ¬ (("modulus" : Str) = "steps") := by decide +kernel
theorem rn03 : ¬ (("modulus" : Str) = "outputs") := by decide +kernel
theorem rn12 : ¬ (("inputs" : Str) = "steps") := by decide +kernel
theorem rn13 : ¬ (("inputs" : Str) = "outputs") := by decide +kernel
theorem rn23 : ¬ (("steps" : Str) = "outputs") := by decide +kernel
section
variable (m n : Int) (ss : List Stp) (out : PyData)
theorem rdr_m : (rdr m n ss out).lookup ("modulus" : Str) = some (.d (.int m)) := by unfold rdr; rw [look_cons, if_pos rfl]
theorem rdr_n : (rdr m n ss out).lookup ("inputs" : Str) = some (.d (.int n)) := by unfold rdr; rw [look_cons, if_neg rn01, look_cons, if_pos rfl]
theorem rdr_s : (rdr m n ss out).lookup ("steps" : Str) = some (.ol (ss.map Stp.d)) := by unfold rdr; rw [look_cons, if_neg rn02, look_cons, if_neg rn12, look_cons, if_pos rfl]
theorem rdr_o : (rdr m n ss out).lookup ("outputs" : Str) = some (.d out) := by unfold rdr; rw [look_cons, if_neg rn03, look_cons, if_neg rn13, look_cons, if_neg rn23, look_cons, if_pos rfl]
theorem rdr_pm (q : Int) : putFV "modulus" (.d (.int q)) (rdr m n ss out) = rdr q n ss out := by unfold rdr; rw [putFV_cons, if_pos rfl]
theorem rdr_pn (q : Int) : putFV "inputs" (.d (.int q)) (rdr m n ss out) = rdr m q ss out := by unfold rdr; rw [putFV_cons, if_neg rn01, putFV_cons, if_pos rfl]
theorem rdr_ps (s : Stp) : putFV "steps" (.ol (ss.map Stp.d ++ [s.d])) (rdr m n ss out) = rdr m n (ss ++ [s]) out := by
  unfold rdr
  rw [putFV_cons, if_neg rn02, putFV_cons, if_neg rn12, putFV_cons, if_pos rfl, List.map_append]
  rfl
theorem rdr_po (q : PyData) : putFV "outputs" (.d q) (rdr m n ss out) = rdr m n ss q := by unfold rdr; rw [putFV_cons, if_neg rn03, putFV_cons, if_neg rn13, putFV_cons, if_neg rn23, putFV_cons, if_pos rfl]
theorem rdr_no {f : Str} (h0 : ¬ ("modulus" : Str) = f) (h1 : ¬ ("inputs" : Str) = f) (h2 : ¬ ("steps" : Str) = f) (h3 : ¬ ("outputs" : Str) = f) : (rdr m n ss out).lookup f = none := by
  unfold rdr
  rw [look_cons, if_neg h0, look_cons, if_neg h1, look_cons, if_neg h2, look_cons, if_neg h3, look_nil]
theorem rdr_tm : (rdr m n ss out).lookup ("take_modulus" : Str) = none := rdr_no _ _ _ _ (by decide +kernel) (by decide +kernel) (by decide +kernel) (by decide +kernel)
theorem rdr_ti : (rdr m n ss out).lookup ("take_inputs" : Str) = none := rdr_no _ _ _ _ (by decide +kernel) (by decide +kernel) (by decide +kernel) (by decide +kernel)
theorem rdr_ts : (rdr m n ss out).lookup ("take_step" : Str) = none := rdr_no _ _ _ _ (by decide +kernel) (by decide +kernel) (by decide +kernel) (by decide +kernel)
theorem rdr_to : (rdr m n ss out).lookup ("take_outputs" : Str) = none := rdr_no _ _ _ _ (by decide +kernel) (by decide +kernel) (by decide +kernel) (by decide +kernel)
theorem rdr_io : (rdr m n ss out).lookup ("is_operand" : Str) = none := rdr_no _ _ _ _ (by decide +kernel) (by decide +kernel) (by decide +kernel) (by decide +kernel)
theorem rdr_tk : (rdr m n ss out).lookup ("take" : Str) = none := rdr_no _ _ _ _ (by decide +kernel) (by decide +kernel) (by decide +kernel) (by decide +kernel)
theorem rdr_len : (rdr m n ss out).length ≤ 900 := by show 4 ≤ 900; omega
end
theorem is_operand_ok {o : Opd} {m n : Nat} {ss : List Stp} {out : PyData} (h : o.small) (ho : o.ok n ss.length m) : F_Reader_is_operand [.bo "Reader" (rdr (m : Int) (n : Int) ss out), .d (.str o.str)] = .ok (.d (.bool true)) := by
  have lm := rdr_m (m : Int) (n : Int) ss out
  have lN := rdr_n (m : Int) (n : Int) ss out
  have lS := rdr_s (m : Int) (n : Int) ss out
  have ll : (ss.map Stp.d).length = ss.length := List.length_map _
  show (B_Reader_is_operand [some (.bo "Reader" (rdr (m : Int) (n : Int) ss out)), some (.d (.str o.str))]).fin = _
  unfold B_Reader_is_operand
  have sx := sh_str letx_ok
  have ss' := sh_str lets_ok
  cases o with
  | x i =>
    have hd : gIx (.d (.str (Opd.str (.x i)))) (.d (.int 0)) = .ok (.d (.str "x")) := lx_head let_x h
    have e1 : PyData.eqv (.str "x") (.str "x") = true := by rw [eqv_str]; simp
    have p1 : F_number_behind [.d (.str "x"), .d (.str (Opd.str (.x i)))] = .ok (.d (.int (i : Int))) := behind_lx let_x (by decide) h
    have d1 : decide ((i : Int) < (n : Int)) = true := decide_eq_true (by have : i < n := ho; omega)
    generalize Opd.str (.x i) = W at *
    generalize rdr (m : Int) (n : Int) ss out = R1 at *
    simp only [VT, oS, List.getElem?_cons_zero, List.getElem?_cons_succ, List.set_cons_succ, List.set_cons_zero, List.length_cons, List.length_nil, Nat.reduceAdd, Nat.reduceLT, Nat.reduceLeDiff, Nat.reduceEqDiff, if_true, if_false, List.map_cons, List.map_nil, Option.map_some, reduceIte, Option.bind_some, Option.bind_none, List.append_nil, List.nil_append, List.cons_append, beq_self_eq_true, e_fldS, e_fld, e_obO, e_obB, e_fvd, e_fvl, e_fvF, e_toD, e_toL, e_retS, e_rmO, e_finM, e_finN, e_prop, e_okR, e_M, e_setM, e_appT, e_arO, e_boO, e_mCall, e_MF, e_plainD, e_plainO, e_putob, e_pbD, e_pbB, e_mkO, e_MP, e_fapp, e_fvO, e_dropM, e_ifM, e_retM, e_retNS, e_m2, e_mB, e_mPT, e_mNot, e_mOr, e_nbo, Out.then_rm, MO.out_ok, MO.out_ex, MO.bind_ok, Rs.mo_ok, Option.map_some, and_self, if_true, true_and, and_true, List.all_cons, List.all_nil, Bool.and_true, putFV_nil, hd, sx, e1, p1, lN, d1]
  | s i =>
    have hd : gIx (.d (.str (Opd.str (.s i)))) (.d (.int 0)) = .ok (.d (.str "s")) := lx_head let_s h
    have e1 : PyData.eqv (.str "s") (.str "x") = false := by rw [eqv_str, decide_eq_false]; decide +kernel
    have e2 : PyData.eqv (.str "s") (.str "s") = true := by rw [eqv_str]; simp
    have p1 : F_number_behind [.d (.str "s"), .d (.str (Opd.str (.s i)))] = .ok (.d (.int (i : Int))) := behind_lx let_s (by decide) h
    have d1 : decide ((i : Int) < (ss.length : Int)) = true := decide_eq_true (by have : i < ss.length := ho; omega)
    generalize Opd.str (.s i) = W at *
    generalize rdr (m : Int) (n : Int) ss out = R1 at *
    generalize ss.map Stp.d = SD at *
    simp only [VT, oS, List.getElem?_cons_zero, List.getElem?_cons_succ, List.set_cons_succ, List.set_cons_zero, List.length_cons, List.length_nil, Nat.reduceAdd, Nat.reduceLT, Nat.reduceLeDiff, Nat.reduceEqDiff, if_true, if_false, List.map_cons, List.map_nil, Option.map_some, reduceIte, Option.bind_some, Option.bind_none, List.append_nil, List.nil_append, List.cons_append, beq_self_eq_true, e_fldS, e_fld, e_obO, e_obB, e_fvd, e_fvl, e_fvF, e_toD, e_toL, e_retS, e_rmO, e_finM, e_finN, e_prop, e_okR, e_M, e_setM, e_appT, e_arO, e_boO, e_mCall, e_MF, e_plainD, e_plainO, e_putob, e_pbD, e_pbB, e_mkO, e_MP, e_fapp, e_fvO, e_dropM, e_ifM, e_retM, e_retNS, e_m2, e_mB, e_mPT, e_mNot, e_mOr, e_nbo, Out.then_rm, MO.out_ok, MO.out_ex, MO.bind_ok, Rs.mo_ok, Option.map_some, and_self, if_true, true_and, and_true, List.all_cons, List.all_nil, Bool.and_true, putFV_nil, hd, sx, ss', e1, e2, p1, lS, ll, d1]
  | c v =>
    obtain ⟨d, d1', d2', hd⟩ := num_head (n := v) h
    have hd : gIx (.d (.str (Opd.str (.c v)))) (.d (.int 0)) = .ok (.d (.str ⟨#[d]⟩)) := hd
    have sd := sh_str (digit_ok d2')
    have e1 : PyData.eqv (.str ⟨#[d]⟩) (.str "x") = false := by rw [eqv_str]; exact decide_eq_false (by rw [digit_ne let_x d2' (by decide)]; exact id)
    have e2 : PyData.eqv (.str ⟨#[d]⟩) (.str "s") = false := by rw [eqv_str]; exact decide_eq_false (by rw [digit_ne let_s d2' (by decide)]; exact id)
    have p1 : F_number_of [.d (.str (Opd.str (.c v)))] = .ok (.d (.int (v : Int))) := number_num h
    have d1 : decide ((v : Int) < (m : Int)) = true := decide_eq_true (by have : v < m := ho; omega)
    generalize Opd.str (.c v) = W at *
    generalize rdr (m : Int) (n : Int) ss out = R1 at *
    generalize (⟨#[d]⟩ : Str) = CD at *
    simp only [VT, oS, List.getElem?_cons_zero, List.getElem?_cons_succ, List.set_cons_succ, List.set_cons_zero, List.length_cons, List.length_nil, Nat.reduceAdd, Nat.reduceLT, Nat.reduceLeDiff, Nat.reduceEqDiff, if_true, if_false, List.map_cons, List.map_nil, Option.map_some, reduceIte, Option.bind_some, Option.bind_none, List.append_nil, List.nil_append, List.cons_append, beq_self_eq_true, e_fldS, e_fld, e_obO, e_obB, e_fvd, e_fvl, e_fvF, e_toD, e_toL, e_retS, e_rmO, e_finM, e_finN, e_prop, e_okR, e_M, e_setM, e_appT, e_arO, e_boO, e_mCall, e_MF, e_plainD, e_plainO, e_putob, e_pbD, e_pbB, e_mkO, e_MP, e_fapp, e_fvO, e_dropM, e_ifM, e_retM, e_retNS, e_m2, e_mB, e_mPT, e_mNot, e_mOr, e_nbo, Out.then_rm, MO.out_ok, MO.out_ex, MO.bind_ok, Rs.mo_ok, Option.map_some, and_self, if_true, true_and, and_true, List.all_cons, List.all_nil, Bool.and_true, putFV_nil, hd, sx, ss', sd, e1, e2, p1, lm, d1]
theorem opsD_sh : SeqAt.shaped (.tuple [.str "+", .str "-", .str "*"]) = true := by decide +kernel
theorem ops_any (o : Op) : ([PyData.str "+", .str "-", .str "*"].any fun z => PyData.eqv z (.str o.str)) = true := by cases o <;> decide +kernel
theorem ops_in (o : Op) : gInB (.d (.str o.str)) (.d (.tuple [.str "+", .str "-", .str "*"])) = .ok true := by
  have e : gInB (.d (.str o.str)) (.d (.tuple [.str "+", .str "-", .str "*"])) = if SeqAt.shaped (.str o.str) = true ∧ SeqAt.shaped (.tuple [.str "+", .str "-", .str "*"]) = true then .ok ([PyData.str "+", .str "-", .str "*"].any fun z => PyData.eqv z (.str o.str)) else .no := rfl
  rw [e, if_pos ⟨sh_str (op_ok o), opsD_sh⟩, ops_any]
def stpL (k : Nat) (s : Stp) : List PyData := [.str (lx "s" k), .str "=", .str s.l.str, .str s.op.str, .str s.r.str]
def NewStp (ss : List Stp) (s : Stp) : Prop := ((ss.map Stp.d).any fun z => PyData.eqv z s.d) = false
theorem take_step_ok {m n : Nat} {ss : List Stp} {out : PyData} (s : Stp) (hl : s.l.small) (hr : s.r.small) (ol : s.l.ok n ss.length m) (or' : s.r.ok n ss.length m) (h8 : ss.length < 8) (hn : NewStp ss s) :
    F_Reader_take_step [.ob true "Reader" (rdr (m : Int) (n : Int) ss out), .d (.list (stpL ss.length s))] = .ok "Reader" (rdr (m : Int) (n : Int) (ss ++ [s]) out) .none := by
  have gl : gLen [.d (.list (stpL ss.length s))] = .ok (.d (.int 5)) := rfl
  have a0 : atI (stpL ss.length s) 0 = some (.str (lx "s" ss.length)) := rfl
  have a1 : atI (stpL ss.length s) 1 = some (.str "=") := rfl
  have a2 : atI (stpL ss.length s) 2 = some (.str s.l.str) := rfl
  have a3 : atI (stpL ss.length s) 3 = some (.str s.op.str) := rfl
  have a4 : atI (stpL ss.length s) 4 = some (.str s.r.str) := rfl
  have seq := sh_str (show PyData.strOk "=" = true by decide +kernel)
  have ev : PyData.eqv (.str "=") (.str "=") = true := by rw [eqv_str]; simp
  have no := ops_in s.op
  have nb : F_number_behind [.d (.str "s"), .d (.str (lx "s" ss.length))] = .ok (.d (.int (ss.length : Int))) := behind_lx let_s (by decide) (by omega)
  have l1 := looks_ok hl
  have l2 := looks_ok hr
  have i1 : isNone (.d (.int (ss.length : Int))) = false := rfl
  have lS := rdr_s (m : Int) (n : Int) ss out
  have lio := rdr_io (m : Int) (n : Int) ss out
  have ll : (ss.map Stp.d).length = ss.length := List.length_map _
  have d1 : decide ((ss.length : Int) ≥ 8) = false := decide_eq_false (by omega)
  have p1 := is_operand_ok (out := out) hl ol
  have p2 := is_operand_ok (out := out) hr or'
  have lz : ss.length ≤ 1000000 := by omega
  have an : ((ss.map Stp.d).any fun z => PyData.eqv z (.tuple [.str s.op.str, .str s.l.str, .str s.r.str])) = false := hn
  have sh1 : SeqAt.shaped (.tuple [.str s.op.str, .str s.l.str, .str s.r.str]) = true := s.nice.shaped (by decide)
  have sh2 : SeqAt.shaped (.list (ss.map Stp.d)) = true := (stps_nice ss).shaped (by decide)
  have pu : putFV "steps" (.ol (ss.map Stp.d ++ [.tuple [.str s.op.str, .str s.l.str, .str s.r.str]])) (rdr (m : Int) (n : Int) ss out) = rdr (m : Int) (n : Int) (ss ++ [s]) out := rdr_ps (m : Int) (n : Int) ss out s
  show (B_Reader_take_step [some (.ob true "Reader" (rdr (m : Int) (n : Int) ss out)), some (.d (.list (stpL ss.length s))), none, none]).finM = _
  unfold B_Reader_take_step
  generalize rdr (m : Int) (n : Int) (ss ++ [s]) out = R2 at *
  generalize rdr (m : Int) (n : Int) ss out = R1 at *
  generalize stpL ss.length s = SL at *
  generalize lx "s" ss.length = W0 at *
  generalize s.l.str = WL at *
  generalize s.r.str = WR at *
  generalize s.op.str = WO at *
  generalize ss.map Stp.d = SD at *
  simp only [VT, oS, List.getElem?_cons_zero, List.getElem?_cons_succ, List.set_cons_succ, List.set_cons_zero, List.length_cons, List.length_nil, Nat.reduceAdd, Nat.reduceLT, Nat.reduceLeDiff, Nat.reduceEqDiff, if_true, if_false, List.map_cons, List.map_nil, Option.map_some, reduceIte, Option.bind_some, Option.bind_none, List.append_nil, List.nil_append, List.cons_append, beq_self_eq_true, e_fldS, e_fld, e_obO, e_obB, e_fvd, e_fvl, e_fvF, e_toD, e_toL, e_retS, e_rmO, e_finM, e_finN, e_prop, e_okR, e_M, e_setM, e_appT, e_arO, e_boO, e_mCall, e_MF, e_plainD, e_plainO, e_putob, e_pbD, e_pbB, e_mkO, e_MP, e_fapp, e_fvO, e_dropM, e_ifM, e_retM, e_retNS, e_m2, e_mB, e_mPT, e_mNot, e_mOr, e_nbo, Out.then_rm, MO.out_ok, MO.out_ex, MO.bind_ok, Rs.mo_ok, Option.map_some, and_self, if_true, true_and, and_true, List.all_cons, List.all_nil, Bool.and_true, putFV_nil, gl, a0, a1, a2, a3, a4, seq, ev, no, nb, l1, l2, i1, lS, lio, ll, d1, p1, p2, lz, an, sh1, sh2, pu]
theorem lc_nums (e0 e1 e2 e3 e4 e5 : Option RV) (os : List Nat) (hb : ∀ o ∈ os, o < 100000) : lcF (.nm 5) bYes (cA (fun rs => if rs.length = 2 then F_number_behind (rs.map RV.arg) else .no) (aC (cC (.str "s")) (aC (cV 5) aN))) [e0, e1, e2, e3, e4, e5] (os.map fun o => .str (lx "s" o)) = .ok (os.map natI) := by
  have h := lcF_map (tg := .nm 5) (t := bYes) (fe := cA (fun rs => if rs.length = 2 then F_number_behind (rs.map RV.arg) else .no) (aC (cC (.str "s")) (aC (cV 5) aN))) (env := [e0, e1, e2, e3, e4, e5]) (fun o : Nat => PyData.str (lx "s" o)) (fun _ => true) natI os fun o ho => by
    have nb : F_number_behind [.d (.str "s"), .d (.str (lx "s" o))] = .ok (.d (.int (o : Int))) := behind_lx let_s (by decide) (hb o ho)
    refine ⟨[e0, e1, e2, e3, e4, some (.d (.str (lx "s" o)))], rfl, rfl, fun _ => ⟨.d (.int (o : Int)), ?_, rfl⟩⟩
    generalize lx "s" o = W at *
    simp only [VT, oS, List.getElem?_cons_zero, List.getElem?_cons_succ, List.set_cons_succ, List.set_cons_zero, List.length_cons, List.length_nil, Nat.reduceAdd, Nat.reduceLT, Nat.reduceLeDiff, Nat.reduceEqDiff, if_true, if_false, List.map_cons, List.map_nil, Option.map_some, reduceIte, Option.bind_some, Option.bind_none, List.append_nil, List.nil_append, List.cons_append, beq_self_eq_true, nb]
  rw [h, List.filter_eq_self.mpr fun _ _ => rfl]
theorem outs_small (N : Nat) (lk : PyData) (R : List (Str × FV)) (SD : List PyData) (hS : R.lookup ("steps" : Str) = some (.ol SD)) (hN : SD.length = N) (e1 e2 e4 e5 : Option RV) : ∀ (os : List Nat) (e3 : Option RV), (∀ o ∈ os, o < N) →
    ∃ e3', loopF (.nm 3) L0_Reader_take_outputs (os.map natI) [some (.ob true "Reader" R), e1, e2, e3, e4, e5] = .nx [some (.ob true "Reader" R), e1, e2, e3', e4, e5]
  | [], e3, _ => ⟨e3, rfl⟩
  | o :: os, e3, h => by
    obtain ⟨e3', ih⟩ := outs_small N lk R SD hS hN e1 e2 e4 e5 os (some (.d (natI o))) fun x hx => h x (List.mem_cons_of_mem _ hx)
    refine ⟨e3', ?_⟩
    rw [List.map_cons, loopF_cons]
    have ho := h o List.mem_cons_self
    have d1 : decide ((o : Int) ≥ (SD.length : Int)) = false := decide_eq_false (by omega)
    have t : tgE (.nm 3) (natI o) [some (.ob true "Reader" R), e1, e2, e3, e4, e5] = some [some (.ob true "Reader" R), e1, e2, some (.d (natI o)), e4, e5] := rfl
    have st : L0_Reader_take_outputs [some (.ob true "Reader" R), e1, e2, some (.d (natI o)), e4, e5] = .nx [some (.ob true "Reader" R), e1, e2, some (.d (natI o)), e4, e5] := by
      show L0_Reader_take_outputs [some (.ob true "Reader" R), e1, e2, some (.d (.int (o : Int))), e4, e5] = _
      unfold L0_Reader_take_outputs
      simp only [VT, oS, List.getElem?_cons_zero, List.getElem?_cons_succ, List.set_cons_succ, List.set_cons_zero, List.length_cons, List.length_nil, Nat.reduceAdd, Nat.reduceLT, Nat.reduceLeDiff, Nat.reduceEqDiff, if_true, if_false, List.map_cons, List.map_nil, Option.map_some, reduceIte, Option.bind_some, Option.bind_none, List.append_nil, List.nil_append, List.cons_append, beq_self_eq_true, e_fldS, e_fld, e_obO, e_obB, e_fvd, e_fvl, e_fvF, e_toD, e_toL, e_retS, e_rmO, e_finM, e_finN, e_prop, e_okR, e_M, e_setM, e_appT, e_arO, e_boO, e_mCall, e_MF, e_plainD, e_plainO, e_putob, e_pbD, e_pbB, e_mkO, e_MP, e_fapp, e_fvO, e_dropM, e_ifM, e_retM, e_retNS, e_m2, e_mB, e_mPT, e_mNot, e_mOr, e_nbo, Out.then_rm, MO.out_ok, MO.out_ex, MO.bind_ok, Rs.mo_ok, Option.map_some, and_self, if_true, true_and, and_true, List.all_cons, List.all_nil, Bool.and_true, putFV_nil, hS, d1]
      rfl
    rw [t]
    simp only [st, lp_nx]
    exact ih
theorem outs_up (e0 e1 e3 e5 : Option RV) (os : List Nat) (hu : os.Pairwise (· < ·)) : ∀ (n i : Nat) (e4 : Option RV), 1 ≤ i → i + n = os.length →
    ∃ e4', loopF (.nm 4) L1_Reader_take_outputs ((List.range' i n).map natI) [e0, e1, some (.d (.list (os.map natI))), e3, e4, e5] = .nx [e0, e1, some (.d (.list (os.map natI))), e3, e4', e5]
  | 0, i, e4, _, _ => ⟨e4, rfl⟩
  | n + 1, i, e4, h1, h2 => by
    obtain ⟨e4', ih⟩ := outs_up e0 e1 e3 e5 os hu n (i + 1) (some (.d (natI i))) (by omega) (by omega)
    refine ⟨e4', ?_⟩
    rw [List.range'_succ, List.map_cons, loopF_cons]
    have hi : i < os.length := by omega
    have hj : i - 1 < os.length := by omega
    have lt : os[i - 1] < os[i] := List.pairwise_iff_getElem.mp hu (i - 1) i hj hi (by omega)
    have g1 : atI (os.map natI) (i : Int) = some (.int ((os[i] : Nat) : Int)) := atI_nats (List.getElem?_eq_getElem hi)
    have g2 : atI (os.map natI) ((i : Int) - 1) = some (.int ((os[i - 1] : Nat) : Int)) := by
      rw [show (i : Int) - 1 = ((i - 1 : Nat) : Int) by omega]
      exact atI_nats (List.getElem?_eq_getElem hj)
    have d1 : decide (((os[i] : Nat) : Int) ≤ ((os[i - 1] : Nat) : Int)) = false := decide_eq_false (by omega)
    have t : tgE (.nm 4) (natI i) [e0, e1, some (.d (.list (os.map natI))), e3, e4, e5] = some [e0, e1, some (.d (.list (os.map natI))), e3, some (.d (natI i)), e5] := rfl
    have st : L1_Reader_take_outputs [e0, e1, some (.d (.list (os.map natI))), e3, some (.d (natI i)), e5] = .nx [e0, e1, some (.d (.list (os.map natI))), e3, some (.d (natI i)), e5] := by
      show L1_Reader_take_outputs [e0, e1, some (.d (.list (os.map natI))), e3, some (.d (.int (i : Int))), e5] = _
      unfold L1_Reader_take_outputs
      generalize os.map natI = ON at *
      simp only [VT, oS, List.getElem?_cons_zero, List.getElem?_cons_succ, List.set_cons_succ, List.set_cons_zero, List.length_cons, List.length_nil, Nat.reduceAdd, Nat.reduceLT, Nat.reduceLeDiff, Nat.reduceEqDiff, if_true, if_false, List.map_cons, List.map_nil, Option.map_some, reduceIte, Option.bind_some, Option.bind_none, List.append_nil, List.nil_append, List.cons_append, beq_self_eq_true, g1, g2, d1]
      rfl
    rw [t]
    simp only [st, lp_nx]
    exact ih
theorem rng1 (n : Nat) : rngL 1 n = (List.range' 1 n).map natI := by
  unfold rngL
  rw [List.range'_eq_map_range, List.map_map]
  apply List.map_congr_left
  intro k _
  show PyData.int (1 + (k : Int)) = PyData.int ((1 + k : Nat) : Int)
  congr 1
theorem take_outs_ok {m n : Nat} {ss : List Stp} {out : PyData} {os : List Nat} (hu : os.Pairwise (· < ·)) (hb : ∀ o ∈ os, o < ss.length) (h0 : os ≠ []) (h8 : ss.length ≤ 8) (ho : os.length ≤ 8) :
    F_Reader_take_outputs [.ob true "Reader" (rdr (m : Int) (n : Int) ss out), .d (.list (os.map fun o => .str (lx "s" o)))] = .ok "Reader" (rdr (m : Int) (n : Int) ss (.tuple (os.map natI))) .none := by
  have lS := rdr_s (m : Int) (n : Int) ss out
  have ll : (ss.map Stp.d).length = ss.length := List.length_map _
  have lw : (os.map fun o => PyData.str (lx "s" o)).length = os.length := List.length_map _
  have lo : (os.map natI).length = os.length := List.length_map _
  have lc := lc_nums (some (.ob true "Reader" (rdr (m : Int) (n : Int) ss out))) (some (.d (.list (os.map fun o => .str (lx "s" o))))) none none none none os fun o h => by have := hb o h; omega
  have hp : 1 ≤ os.length := List.length_pos_iff.mpr h0
  have d0 : decide ((os.length : Int) = 0) = false := decide_eq_false (by omega)
  have sN := sh_natsL os
  have s0 : SeqAt.shaped .none = true := by decide +kernel
  have an : ((os.map natI).any fun z => PyData.eqv z .none) = false := by
    rw [List.any_eq_false]
    intro z hz
    obtain ⟨o, _, rfl⟩ := List.mem_map.mp hz
    exact Bool.false_ne_true
  obtain ⟨e3', l1⟩ := outs_small ss.length .none (rdr (m : Int) (n : Int) ss out) (ss.map Stp.d) lS ll (some (.d (.list (os.map fun o => .str (lx "s" o))))) (some (.d (.list (os.map natI)))) none none os none hb
  obtain ⟨e4', l2⟩ := outs_up (some (.ob true "Reader" (rdr (m : Int) (n : Int) ss out))) (some (.d (.list (os.map fun o => .str (lx "s" o))))) e3' none os hu (os.length - 1) 1 none (by omega) (by omega)
  have pu := rdr_po (m : Int) (n : Int) ss out (.tuple (os.map natI))
  have ln := rdr_len (m : Int) (n : Int) ss out
  have lz : os.length ≤ 1000000 := by omega
  have za : (1 : Int).natAbs ≤ 1000000 ∧ ((os.length : Int)).natAbs ≤ 1000000 := ⟨by decide, by omega⟩
  have r1 : gR2 [.d (.int 1), .d (.int (os.length : Int))] = .ok ((List.range' 1 (os.length - 1)).map natI) := by
    show (if (1 : Int).natAbs ≤ 1000000 ∧ ((os.length : Int)).natAbs ≤ 1000000 then Rs.ok (rngL 1 ((os.length : Int) - 1).toNat) else .no) = _
    rw [if_pos za, show ((os.length : Int) - 1).toNat = os.length - 1 by omega, rng1]
  show (B_Reader_take_outputs [some (.ob true "Reader" (rdr (m : Int) (n : Int) ss out)), some (.d (.list (os.map fun o => .str (lx "s" o)))), none, none, none, none]).finM = _
  unfold B_Reader_take_outputs
  generalize rdr (m : Int) (n : Int) ss (.tuple (os.map natI)) = R2 at *
  generalize rdr (m : Int) (n : Int) ss out = R1 at *
  generalize (os.map fun o => PyData.str (lx "s" o)) = WS at *
  generalize os.map natI = ON at *
  generalize (List.range' 1 (os.length - 1)).map natI = RG at *
  simp only [VT, oS, List.getElem?_cons_zero, List.getElem?_cons_succ, List.set_cons_succ, List.set_cons_zero, List.length_cons, List.length_nil, Nat.reduceAdd, Nat.reduceLT, Nat.reduceLeDiff, Nat.reduceEqDiff, if_true, if_false, List.map_cons, List.map_nil, Option.map_some, reduceIte, Option.bind_some, Option.bind_none, List.append_nil, List.nil_append, List.cons_append, beq_self_eq_true, e_fldS, e_fld, e_obO, e_obB, e_fvd, e_fvl, e_fvF, e_toD, e_toL, e_retS, e_rmO, e_finM, e_finN, e_prop, e_okR, e_M, e_setM, e_appT, e_arO, e_boO, e_mCall, e_MF, e_plainD, e_plainO, e_putob, e_pbD, e_pbB, e_mkO, e_MP, e_fapp, e_fvO, e_dropM, e_ifM, e_retM, e_retNS, e_m2, e_mB, e_mPT, e_mNot, e_mOr, e_nbo, Out.then_rm, MO.out_ok, MO.out_ex, MO.bind_ok, Rs.mo_ok, Option.map_some, and_self, if_true, true_and, and_true, List.all_cons, List.all_nil, Bool.and_true, putFV_nil, lw, lo, lc, d0, sN, s0, an, l1, l2, r1, pu, ln, lz]
theorem rel_ne {o : Nat} : lx "s" o ≠ ("return" : Str) := fun e => by
  have this : (lx "s" o).cps.toList = ("return" : Str).cps.toList := by rw [e]
  rw [lx_l let_s, show (("return" : Str).cps.toList) = [114, 101, 116, 117, 114, 110] by decide +kernel] at this
  cases this
theorem ret_ok : PyData.strOk "return" = true := by decide +kernel
theorem take_s_ok {line : Str} {k : Nat} {m n : Nat} {ss : List Stp} (s : Stp) (hsp : (Txt.split line " ").map PyData.str = stpL ss.length s) (hll : line.length ≤ 1000000) (hk : 2 ≤ k) (hl : s.l.small) (hr : s.r.small) (ol : s.l.ok n ss.length m) (or' : s.r.ok n ss.length m) (h8 : ss.length < 8) (hn : NewStp ss s) :
    F_Reader_take [.ob true "Reader" (rdr (m : Int) (n : Int) ss .none), .d (.int (k : Int)), .d (.str line)] = .ok "Reader" (rdr (m : Int) (n : Int) (ss ++ [s]) .none) .none := by
  have tm := rdr_ts (m : Int) (n : Int) ss .none
  have ro := rdr_o (m : Int) (n : Int) ss .none
  have i0 : isNone (.d .none) = true := rfl
  have ok := take_step_ok (m := m) (n := n) (ss := ss) (out := .none) s hl hr ol or' h8 hn
  have d1 : decide ((k : Int) = 0) = false := decide_eq_false (by omega)
  have d2 : decide ((k : Int) = 1) = false := decide_eq_false (by omega)
  have sp : gSplit line (.d (.str " ")) = .ok (.ol (stpL ss.length s)) := by
    rw [e_split, if_pos ⟨by decide +kernel, hll⟩, hsp]
  have a0 : atI (stpL ss.length s) 0 = some (.str (lx "s" ss.length)) := rfl
  have s1 := sh_str (lx_strOk let_s (by decide) ss.length)
  have s2 := sh_str ret_ok
  have ev : PyData.eqv (.str (lx "s" ss.length)) (.str "return") = false := by rw [eqv_str]; exact decide_eq_false rel_ne
  show (B_Reader_take [some (.ob true "Reader" (rdr (m : Int) (n : Int) ss .none)), some (.d (.int (k : Int))), some (.d (.str line)), none]).finM = _
  unfold B_Reader_take
  generalize rdr (m : Int) (n : Int) (ss ++ [s]) .none = R2 at *
  generalize rdr (m : Int) (n : Int) ss .none = R1 at *
  generalize stpL ss.length s = SL at *
  generalize lx "s" ss.length = W0 at *
  generalize (" " : Str) = SP at *
  simp only [VT, oS, List.getElem?_cons_zero, List.getElem?_cons_succ, List.set_cons_succ, List.set_cons_zero, List.length_cons, List.length_nil, Nat.reduceAdd, Nat.reduceLT, Nat.reduceLeDiff, Nat.reduceEqDiff, if_true, if_false, List.map_cons, List.map_nil, Option.map_some, reduceIte, Option.bind_some, Option.bind_none, List.append_nil, List.nil_append, List.cons_append, beq_self_eq_true, e_fldS, e_fld, e_obO, e_obB, e_fvd, e_fvl, e_fvF, e_toD, e_toL, e_retS, e_rmO, e_finM, e_finN, e_prop, e_okR, e_M, e_setM, e_appT, e_arO, e_boO, e_mCall, e_MF, e_plainD, e_plainO, e_putob, e_pbD, e_pbB, e_mkO, e_MP, e_fapp, e_fvO, e_dropM, e_ifM, e_retM, e_retNS, e_m2, e_mB, e_mPT, e_mNot, e_mOr, e_nbo, Out.then_rm, MO.out_ok, MO.out_ex, MO.bind_ok, Rs.mo_ok, Option.map_some, and_self, if_true, true_and, and_true, List.all_cons, List.all_nil, Bool.and_true, putFV_nil, e_M1, tm, ro, i0, ok, d1, d2, sp, a0, s1, s2, ev, RV.isN]
theorem take_r_ok {line : Str} {k : Nat} {m n : Nat} {ss : List Stp} {os : List Nat} (hsp : Txt.split line " " = ("return" : Str) :: os.map (lx "s")) (hll : line.length ≤ 1000000) (hk : 2 ≤ k) (hu : os.Pairwise (· < ·)) (hb : ∀ o ∈ os, o < ss.length) (h0 : os ≠ []) (h8 : ss.length ≤ 8) (ho : os.length ≤ 8) :
    F_Reader_take [.ob true "Reader" (rdr (m : Int) (n : Int) ss .none), .d (.int (k : Int)), .d (.str line)] = .ok "Reader" (rdr (m : Int) (n : Int) ss (.tuple (os.map natI))) .none := by
  have tm := rdr_to (m : Int) (n : Int) ss .none
  have ro := rdr_o (m : Int) (n : Int) ss .none
  have i0 : isNone (.d .none) = true := rfl
  have ok := take_outs_ok (m := m) (n := n) (ss := ss) (out := .none) hu hb h0 h8 ho
  have d1 : decide ((k : Int) = 0) = false := decide_eq_false (by omega)
  have d2 : decide ((k : Int) = 1) = false := decide_eq_false (by omega)
  have sp : gSplit line (.d (.str " ")) = .ok (.ol (PyData.str "return" :: os.map fun o => .str (lx "s" o))) := by
    rw [e_split, if_pos ⟨by decide +kernel, hll⟩, hsp, List.map_cons, List.map_map]
    rfl
  have a0 : atI (PyData.str "return" :: os.map fun o => PyData.str (lx "s" o)) 0 = some (.str "return") := atI_zero ..
  have s2 := sh_str ret_ok
  have ev : PyData.eqv (.str "return") (.str "return") = true := by rw [eqv_str]; simp
  have cu : gSl (.d (.list (PyData.str "return" :: os.map fun o => PyData.str (lx "s" o)))) (some 1) none = .ok (.ol (os.map fun o => PyData.str (lx "s" o))) := by
    show Rs.ok (RV.ol (cutL (PyData.str "return" :: os.map fun o => PyData.str (lx "s" o)) (some 1) none)) = _
    rw [show (1 : Int) = ((1 : Nat) : Int) from rfl, cut_suf _ 1 (by simp)]
    rfl
  have cu2 : gSl (.bl (PyData.str "return" :: os.map fun o => PyData.str (lx "s" o))) (some 1) none = .ok (.ol (os.map fun o => PyData.str (lx "s" o))) := cu
  show (B_Reader_take [some (.ob true "Reader" (rdr (m : Int) (n : Int) ss .none)), some (.d (.int (k : Int))), some (.d (.str line)), none]).finM = _
  unfold B_Reader_take
  generalize (PyData.str "return" :: os.map fun o => PyData.str (lx "s" o)) = SL at *
  generalize (os.map fun o => PyData.str (lx "s" o)) = SL2 at *
  generalize rdr (m : Int) (n : Int) ss (.tuple (os.map natI)) = R2 at *
  generalize rdr (m : Int) (n : Int) ss .none = R1 at *
  generalize (" " : Str) = SP at *
  simp only [VT, oS, List.getElem?_cons_zero, List.getElem?_cons_succ, List.set_cons_succ, List.set_cons_zero, List.length_cons, List.length_nil, Nat.reduceAdd, Nat.reduceLT, Nat.reduceLeDiff, Nat.reduceEqDiff, if_true, if_false, List.map_cons, List.map_nil, Option.map_some, reduceIte, Option.bind_some, Option.bind_none, List.append_nil, List.nil_append, List.cons_append, beq_self_eq_true, e_fldS, e_fld, e_obO, e_obB, e_fvd, e_fvl, e_fvF, e_toD, e_toL, e_retS, e_rmO, e_finM, e_finN, e_prop, e_okR, e_M, e_setM, e_appT, e_arO, e_boO, e_mCall, e_MF, e_plainD, e_plainO, e_putob, e_pbD, e_pbB, e_mkO, e_MP, e_fapp, e_fvO, e_dropM, e_ifM, e_retM, e_retNS, e_m2, e_mB, e_mPT, e_mNot, e_mOr, e_nbo, Out.then_rm, MO.out_ok, MO.out_ex, MO.bind_ok, Rs.mo_ok, Option.map_some, and_self, if_true, true_and, and_true, List.all_cons, List.all_nil, Bool.and_true, putFV_nil, e_M1, tm, ro, i0, ok, d1, d2, sp, a0, s2, ev, cu, cu2, RV.isN]
theorem joinL_snoc (S : List Nat) (p : List Nat) : ∀ (ps : List (List Nat)), ps ≠ [] → joinL S (ps ++ [p]) = joinL S ps ++ (S ++ p)
  | [], h => absurd rfl h
  | [q], _ => rfl
  | q :: r :: ps, _ => by
    have ih := joinL_snoc S p (r :: ps) (by simp)
    show q ++ (S ++ joinL S (r :: ps ++ [p])) = q ++ (S ++ joinL S (r :: ps)) ++ (S ++ p)
    rw [ih]
    simp only [List.append_assoc]
theorem joinL_len (S : List Nat) (b : Nat) : ∀ (ps : List (List Nat)), (∀ p ∈ ps, p.length ≤ b) → (joinL S ps).length ≤ ps.length * (b + S.length)
  | [], _ => Nat.zero_le _
  | [q], h => by
    have := h q (by simp)
    show q.length ≤ 1 * _
    omega
  | q :: r :: ps, h => by
    have ih := joinL_len S b (r :: ps) fun p hp => h p (List.mem_cons_of_mem _ hp)
    have := h q (by simp)
    show (q ++ (S ++ joinL S (r :: ps))).length ≤ ((r :: ps).length + 1) * _
    rw [List.length_append, List.length_append, Nat.add_mul]
    omega
theorem joinL_mem (S : List Nat) {c : Nat} : ∀ (ps : List (List Nat)), c ∈ joinL S ps → c ∈ S ∨ ∃ p ∈ ps, c ∈ p
  | [], h => by cases h
  | [q], h => .inr ⟨q, by simp, h⟩
  | q :: r :: ps, h => by
    have h : c ∈ q ++ (S ++ joinL S (r :: ps)) := h
    rcases List.mem_append.mp h with h | h
    · exact .inr ⟨q, by simp, h⟩
    · rcases List.mem_append.mp h with h | h
      · exact .inl h
      · rcases joinL_mem S (r :: ps) h with h | ⟨p, hp, hc⟩
        · exact .inl h
        · exact .inr ⟨p, List.mem_cons_of_mem _ hp, hc⟩
theorem join_l (y : Str) (ps : List Str) : (Txt.join y ps).cps.toList = joinL y.cps.toList (ps.map fun s => s.cps.toList) := by
  rw [join_eq]
  exact tl_join y ps
theorem sp_l : ((" " : Str)).cps.toList = [32] := by decide +kernel
theorem nl_l : (("\n" : Str)).cps.toList = [10] := by decide +kernel
theorem em_l : (("" : Str)).cps.toList = [] := by decide +kernel
theorem eq_l : (("=" : Str)).cps.toList = [61] := by decide +kernel
theorem mod_l : (("mod" : Str)).cps.toList = [109, 111, 100] := by decide +kernel
theorem inp_l : (("inputs" : Str)).cps.toList = [105, 110, 112, 117, 116, 115] := by decide +kernel
theorem mods_l : (("mod " : Str)).cps.toList = [109, 111, 100, 32] := by decide +kernel
theorem inps_l : (("inputs " : Str)).cps.toList = [105, 110, 112, 117, 116, 115, 32] := by decide +kernel
theorem seqs_l : ((" = " : Str)).cps.toList = [32, 61, 32] := by decide +kernel
theorem ss_l : ((" s" : Str)).cps.toList = [32, 115] := by decide +kernel
theorem s_l : (("s" : Str)).cps.toList = [115] := by decide +kernel
structure Word (s : Str) : Prop where
  vis : ∀ c ∈ s.cps.toList, 32 < c ∧ c < 200
  len : s.cps.toList.length ≤ 6
theorem word_num {n : Nat} (h : n < 100000) : Word (numS n) := ⟨fun c hc => by
  rw [num_l] at hc
  have := numL_digits n c hc
  omega, by have := num_len h; rw [← str_size]; omega⟩
theorem word_lx {c : Str} {k : Nat} (hc : Letter c k) (hk : 32 < k ∧ k < 200) {n : Nat} (h : n < 100000) : Word (lx c n) := ⟨fun d hd => by
  rw [lx_l hc] at hd
  rcases List.mem_cons.mp hd with rfl | hd
  · exact hk
  · have := numL_digits n d hd
    omega, by have := lx_len hc h; rw [← str_size]; omega⟩
theorem word_opd {o : Opd} (h : o.small) : Word o.str := by
  cases o with
  | x i => exact word_lx let_x (by decide) h
  | s i => exact word_lx let_s (by decide) h
  | c v => exact word_num h
theorem word_ret : Word "return" := ⟨by decide +kernel, by decide +kernel⟩
def lnW (ws : List Str) : Str := Txt.join " " ws
theorem lnW_l (ws : List Str) : (lnW ws).cps.toList = joinL [32] (ws.map fun s => s.cps.toList) := by
  unfold lnW
  rw [join_l, sp_l]
theorem lnW_len {ws : List Str} (h : ∀ w ∈ ws, Word w) : (lnW ws).length ≤ ws.length * 7 := by
  rw [str_size, lnW_l]
  have := joinL_len [32] 6 (ws.map fun s => s.cps.toList) fun p hp => by
    obtain ⟨w, hw, rfl⟩ := List.mem_map.mp hp
    exact (h w hw).len
  rw [List.length_map] at this
  exact this
def txt0 (ls : List Str) : Str := Txt.join "\n" ls
theorem cut_last {α : Type} (xs : List α) : cutL xs none (some (-1)) = xs.dropLast := by
  unfold cutL
  have e1 : HT.sIx xs.length 0 none = 0 := rfl
  have e2 : HT.sIx xs.length xs.length (some (-1)) = xs.length - 1 := by
    show (if (-1 : Int) < 0 then ((-1 : Int) + (xs.length : Int)).toNat else min (-1 : Int).toNat xs.length) = _
    rw [if_pos (by decide)]
    omega
  rw [e1, e2, List.drop_zero, Nat.sub_zero, ← List.dropLast_eq_take]
def lnM (m : Nat) : Str := lnW [("mod" : Str), numS m]
def lnI (n : Nat) : Str := lnW [("inputs" : Str), numS n]
def lnS (k : Nat) (s : Stp) : Str := lnW [lx "s" k, ("=" : Str), s.l.str, s.op.str, s.r.str]
def lnR (os : List Nat) : Str := lnW (("return" : Str) :: os.map (lx "s"))
def lnSs (ss : List Stp) : List Str := ss.zipIdx.map fun p => lnS p.2 p.1
def lns (m n : Nat) (ss : List Stp) (os : List Nat) : List Str := lnM m :: lnI n :: (lnSs ss ++ [lnR os])
theorem lnSs_len (ss : List Stp) : (lnSs ss).length = ss.length := by unfold lnSs; simp
theorem lnSs_at (ss : List Stp) (k : Nat) : (lnSs ss)[k]? = (ss[k]?).map fun s => lnS k s := by
  unfold lnSs
  rw [List.getElem?_map, List.getElem?_zipIdx]
  cases ss[k]? <;> simp
theorem lnSs_snoc (ss : List Stp) (s : Stp) : lnSs (ss ++ [s]) = lnSs ss ++ [lnS ss.length s] := by
  unfold lnSs
  rw [List.zipIdx_append, List.map_append]
  simp
structure GoodT (m n : Nat) (ss : List Stp) (os : List Nat) : Prop where
  m2 : 2 ≤ m
  mh : m ≤ 1000
  n1 : 1 ≤ n
  nh : n ≤ 6
  ok : StpsOk m n ss
  s8 : ss.length ≤ 8
  new : ∀ (k : Nat) (s : Stp), ss[k]? = some s → NewStp (ss.take k) s
  up : os.Pairwise (· < ·)
  hi : ∀ o ∈ os, o < ss.length
  o1 : os ≠ []
  o8 : os.length ≤ 8
section
variable {m n : Nat} {ss : List Stp} {os : List Nat}
theorem GoodT.sm (h : GoodT m n ss os) {k : Nat} {s : Stp} (hk : ss[k]? = some s) : s.l.small ∧ s.r.small := by
  have := h.mh
  have := h.nh
  have := h.s8
  have := (List.getElem?_eq_some_iff.mp hk).1
  obtain ⟨a, b⟩ := h.ok k s hk
  exact ⟨a.small (by omega) (by omega) (by omega), b.small (by omega) (by omega) (by omega)⟩
theorem GoodT.wR (h : GoodT m n ss os) : ∀ w ∈ ("return" : Str) :: os.map (lx "s"), Word w := by
  intro w hw
  rcases List.mem_cons.mp hw with rfl | hw
  · exact word_ret
  · obtain ⟨o, ho, rfl⟩ := List.mem_map.mp hw
    have := h.hi o ho
    have := h.s8
    exact word_lx let_s (by decide) (by omega)
end
theorem lns_len (m n : Nat) (ss : List Stp) (os : List Nat) : (lns m n ss os).length = ss.length + 3 := by
  unfold lns
  simp [lnSs_len]
def rA : List (Str × FV) := [("modulus", .d (.int 0))]
def rB : List (Str × FV) := [("modulus", .d (.int 0)), ("inputs", .d (.int 0))]
def rC : List (Str × FV) := [("modulus", .d (.int 0)), ("inputs", .d (.int 0)), ("steps", .ol [])]
theorem init_ok : F_Reader___init__ [.ob true "Reader" []] = .ok "Reader" (rdr 0 0 [] .none) .none := by
  have p0 : putFV "modulus" (.d (.int 0)) [] = rA := rfl
  have p1 : putFV "inputs" (.d (.int 0)) rA = rB := by unfold rA; rw [putFV_cons, if_neg rn01]; rfl
  have p2 : putFV "steps" (.ol []) rB = rC := by unfold rB; rw [putFV_cons, if_neg rn02, putFV_cons, if_neg rn12]; rfl
  have p3 : putFV "outputs" (.d .none) rC = rdr 0 0 [] .none := by unfold rC; rw [putFV_cons, if_neg rn03, putFV_cons, if_neg rn13, putFV_cons, if_neg rn23]; rfl
  have l0 : ([] : List (Str × FV)).length ≤ 900 := by show 0 ≤ 900; decide
  have l1 : rA.length ≤ 900 := by show 1 ≤ 900; decide
  have l2 : rB.length ≤ 900 := by show 2 ≤ 900; decide
  have l3 : rC.length ≤ 900 := by show 3 ≤ 900; decide
  show (B_Reader___init__ [some (.ob true "Reader" [])]).finM = _
  unfold B_Reader___init__
  generalize rdr 0 0 [] .none = R4 at *
  generalize rC = R3 at *
  generalize rB = R2 at *
  generalize rA = R1 at *
  generalize ([] : List (Str × FV)) = R0 at *
  simp only [VT, oS, List.getElem?_cons_zero, List.getElem?_cons_succ, List.set_cons_succ, List.set_cons_zero, List.length_cons, List.length_nil, Nat.reduceAdd, Nat.reduceLT, Nat.reduceLeDiff, Nat.reduceEqDiff, if_true, if_false, List.map_cons, List.map_nil, Option.map_some, reduceIte, Option.bind_some, Option.bind_none, List.append_nil, List.nil_append, List.cons_append, beq_self_eq_true, e_fldS, e_fld, e_obO, e_obB, e_fvd, e_fvl, e_fvF, e_toD, e_toL, e_retS, e_rmO, e_finM, e_finN, e_prop, e_okR, e_M, e_setM, e_appT, e_arO, e_boO, e_mCall, e_MF, e_plainD, e_plainO, e_putob, e_pbD, e_pbB, e_mkO, e_MP, e_fapp, e_fvO, e_dropM, e_ifM, e_retM, e_retNS, e_m2, e_mB, e_mPT, e_mNot, e_mOr, e_nbo, Out.then_rm, MO.out_ok, MO.out_ex, MO.bind_ok, Rs.mo_ok, Option.map_some, and_self, if_true, true_and, and_true, List.all_cons, List.all_nil, Bool.and_true, putFV_nil, p0, p1, p2, p3, l0, l1, l2, l3]
def progT (m n : Nat) (ss : List Stp) (os : List Nat) : PyData := progD (m : Int) (n : Int) (.tuple (ss.map Stp.d)) (.tuple (os.map natI))
theorem len_app (a b : Str) : (a ++ b).length = a.length + b.length := by rw [str_size, app_l, List.length_append, ← str_size, ← str_size]
theorem add_st {a b : Str} (h : a.length ≤ 1000) (h2 : b.length ≤ 1000) : gAdd (.d (.str a)) (.d (.str b)) = .ok (.d (.str (a ++ b))) := by
  rw [e_addS, if_pos (by omega)]
theorem lnM_l (m : Nat) : (lnM m).cps.toList = [109, 111, 100] ++ ([32] ++ numL m) := by
  unfold lnM
  rw [lnW_l]
  show ("mod" : Str).cps.toList ++ ([32] ++ (numS m).cps.toList) = _
  rw [mod_l, num_l]
theorem lnI_l (n : Nat) : (lnI n).cps.toList = [105, 110, 112, 117, 116, 115] ++ ([32] ++ numL n) := by
  unfold lnI
  rw [lnW_l]
  show ("inputs" : Str).cps.toList ++ ([32] ++ (numS n).cps.toList) = _
  rw [inp_l, num_l]
theorem lnS_l (k : Nat) (s : Stp) : (lnS k s).cps.toList = (115 :: numL k) ++ ([32] ++ ([61] ++ ([32] ++ (s.l.str.cps.toList ++ ([32] ++ (s.op.str.cps.toList ++ ([32] ++ s.r.str.cps.toList))))))) := by
  unfold lnS
  rw [lnW_l]
  show (lx "s" k).cps.toList ++ ([32] ++ (("=" : Str).cps.toList ++ ([32] ++ (s.l.str.cps.toList ++ ([32] ++ (s.op.str.cps.toList ++ ([32] ++ s.r.str.cps.toList))))))) = _
  rw [lx_l let_s, eq_l]
theorem lnR_snoc (os : List Nat) (o : Nat) : lnR (os ++ [o]) = lnR os ++ " s" ++ numS o := by
  apply str_ext
  unfold lnR
  rw [app_l, app_l, lnW_l, lnW_l, ss_l, num_l, List.map_append, List.map_singleton, ← List.cons_append, List.map_append, List.map_singleton, joinL_snoc _ _ _ (by simp), lx_l let_s, List.append_assoc]
  rfl
theorem lnR_nil : lnR [] = "return" := str_ext (by unfold lnR; rw [lnW_l]; rfl)
theorem seqs_len : (" = " : Str).length ≤ 10 := by decide +kernel
theorem sp_len : (" " : Str).length ≤ 10 := by decide +kernel
theorem s_len : ("s" : Str).length ≤ 10 := by decide +kernel
theorem mods_len : ("mod " : Str).length ≤ 10 := by decide +kernel
theorem inps_len : ("inputs " : Str).length ≤ 10 := by decide +kernel
theorem ss_len : (" s" : Str).length ≤ 10 := by decide +kernel
theorem nl_len : ("\n" : Str).length ≤ 10 := by decide +kernel
theorem op_len (o : Op) : o.str.length ≤ 10 := by cases o <;> decide +kernel
theorem operand_t (kind a m n many : Nat) (hm : 2 ≤ m) (hm2 : m ≤ 1000) (hn : 1 ≤ n) (hn2 : n ≤ 6) (hy : many ≤ 8) : ∃ o : Opd, F__law_operand [.d (.int (kind : Int)), .d (.int (a : Int)), .d (.int (n : Int)), .d (.int (many : Int)), .d (.int (m : Int))] = .ok (.d (.str o.str)) ∧ o.ok n many m := by
  have b1 : a % n < n := Nat.mod_lt a (by omega)
  have zn : (0 : Int) < (n : Int) := by omega
  have zm : (0 : Int) < (m : Int) := by omega
  have gx : gStr [.d (.int ((a : Int) % (n : Int)))] = .ok (.d (.str (numS (a % n)))) := by rw [← Int.natCast_emod]; exact str_ok (by omega)
  have ax : gAdd (.d (.str "x")) (.d (.str (numS (a % n)))) = .ok (.d (.str (Opd.str (.x (a % n))))) := add_lx let_x (by omega)
  have hx : Opd.ok n many m (.x (a % n)) := b1
  have eF : F__law_operand [.d (.int (kind : Int)), .d (.int (a : Int)), .d (.int (n : Int)), .d (.int (many : Int)), .d (.int (m : Int))] = (B__law_operand [some (.d (.int (kind : Int))), some (.d (.int (a : Int))), some (.d (.int (n : Int))), some (.d (.int (many : Int))), some (.d (.int (m : Int)))]).fin := rfl
  rw [eF]
  unfold B__law_operand
  cases h0 : decide ((kind : Int) = 0) with
  | true =>
    refine ⟨.x (a % n), ?_, hx⟩
    generalize Opd.str (.x (a % n)) = W at *
    simp only [VT, oS, List.getElem?_cons_zero, List.getElem?_cons_succ, List.set_cons_succ, List.set_cons_zero, List.length_cons, List.length_nil, Nat.reduceAdd, Nat.reduceLT, Nat.reduceLeDiff, Nat.reduceEqDiff, if_true, if_false, List.map_cons, List.map_nil, Option.map_some, reduceIte, Option.bind_some, Option.bind_none, beq_self_eq_true, h0, zn, gx, ax]
  | false =>
    cases h3 : decide ((kind : Int) < 3) with
    | true =>
      cases hz : decide ((many : Int) = 0) with
      | true =>
        refine ⟨.x (a % n), ?_, hx⟩
        generalize Opd.str (.x (a % n)) = W at *
        simp only [VT, oS, List.getElem?_cons_zero, List.getElem?_cons_succ, List.set_cons_succ, List.set_cons_zero, List.length_cons, List.length_nil, Nat.reduceAdd, Nat.reduceLT, Nat.reduceLeDiff, Nat.reduceEqDiff, if_true, if_false, List.map_cons, List.map_nil, Option.map_some, reduceIte, Option.bind_some, Option.bind_none, beq_self_eq_true, h0, h3, hz, zn, gx, ax]
      | false =>
        have hp : 0 < many := by have := of_decide_eq_false hz; omega
        have b2 := Nat.mod_lt a (show 0 < min many 3 by omega)
        have em : (if (3 : Int) < (many : Int) then (3 : Int) else (many : Int)) = ((min many 3 : Nat) : Int) := by split <;> omega
        have zq : (0 : Int) < ((min many 3 : Nat) : Int) := by omega
        have e3 : (many : Int) - 1 - (a : Int) % ((min many 3 : Nat) : Int) = ((many - 1 - a % min many 3 : Nat) : Int) := by
          rw [← Int.natCast_emod]
          omega
        have gs : gStr [.d (.int ((many - 1 - a % min many 3 : Nat) : Int))] = .ok (.d (.str (numS (many - 1 - a % min many 3)))) := str_ok (by omega)
        have as : gAdd (.d (.str "s")) (.d (.str (numS (many - 1 - a % min many 3)))) = .ok (.d (.str (Opd.str (.s (many - 1 - a % min many 3))))) := add_lx let_s (by omega)
        refine ⟨.s (many - 1 - a % min many 3), ?_, show _ < many by omega⟩
        generalize Opd.str (.s (many - 1 - a % min many 3)) = W at *
        simp only [VT, oS, List.getElem?_cons_zero, List.getElem?_cons_succ, List.set_cons_succ, List.set_cons_zero, List.length_cons, List.length_nil, Nat.reduceAdd, Nat.reduceLT, Nat.reduceLeDiff, Nat.reduceEqDiff, if_true, if_false, List.map_cons, List.map_nil, Option.map_some, reduceIte, Option.bind_some, Option.bind_none, beq_self_eq_true, h0, h3, hz, em, zq, e3, gs, as]
    | false =>
      cases hk : decide ((kind : Int) = 3) with
      | true =>
        obtain ⟨v, hv, hvm⟩ : ∃ v : Nat, atI [PyData.int 0, .int 1, .int ((m : Int) - 1), .int ((a : Int) % (m : Int))] ((a : Int) % 4) = some (.int (v : Int)) ∧ v < m := by
          have h4 : a % 4 = 0 ∨ a % 4 = 1 ∨ a % 4 = 2 ∨ a % 4 = 3 := by omega
          have e4 : (a : Int) % 4 = ((a % 4 : Nat) : Int) := by omega
          rw [e4]
          rcases h4 with e | e | e | e <;> rw [e]
          · exact ⟨0, rfl, by omega⟩
          · exact ⟨1, rfl, by omega⟩
          · exact ⟨m - 1, by rw [show ((m - 1 : Nat) : Int) = (m : Int) - 1 by omega]; rfl, by omega⟩
          · exact ⟨a % m, by rw [Int.natCast_emod]; rfl, Nat.mod_lt a (by omega)⟩
        have gs : gStr [.d (.int (v : Int))] = .ok (.d (.str (Opd.str (.c v)))) := str_ok (by omega)
        have z4 : (0 : Int) < 4 := by decide
        refine ⟨.c v, ?_, hvm⟩
        generalize Opd.str (.c v) = W at *
        simp only [VT, oS, List.getElem?_cons_zero, List.getElem?_cons_succ, List.set_cons_succ, List.set_cons_zero, List.length_cons, List.length_nil, Nat.reduceAdd, Nat.reduceLT, Nat.reduceLeDiff, Nat.reduceEqDiff, if_true, if_false, List.map_cons, List.map_nil, Option.map_some, reduceIte, Option.bind_some, Option.bind_none, beq_self_eq_true, h0, h3, hk, z4, zm, hv, gs]
      | false =>
        refine ⟨.x (a % n), ?_, hx⟩
        generalize Opd.str (.x (a % n)) = W at *
        simp only [VT, oS, List.getElem?_cons_zero, List.getElem?_cons_succ, List.set_cons_succ, List.set_cons_zero, List.length_cons, List.length_nil, Nat.reduceAdd, Nat.reduceLT, Nat.reduceLeDiff, Nat.reduceEqDiff, if_true, if_false, List.map_cons, List.map_nil, Option.map_some, reduceIte, Option.bind_some, Option.bind_none, beq_self_eq_true, h0, h3, hk, zn, gx, ax]
def szT : List Nat := [3, 5, 997, 5, 991]
theorem prog_t (ns : List Int) (k p3 : Nat) (nd : List Nat) (m n cnt : Nat) (hc : cnt ≤ 8) (hm : 2 ≤ m) (hm2 : m ≤ 1000) (hn : 1 ≤ n) (hn2 : n ≤ 6) (j6 j7 j8 j9 j10 j11 : Option RV) :
    ∃ ss j6' j7' j8' j9' j10', loopF (.nm 6) L0__law_program ((List.range cnt).map natI) [some (.sc ns), some (.d (.int (k : Int))), some (.ol (nd.map natI)), some (.d (.int (m : Int))), some (.d (.int (n : Int))), some (.ol []), j6, j7, j8, j9, j10, j11]
      = .nx [some (.sc ns), some (.d (.int (k : Int))), some (.ol (nd.map natI)), some (.d (.int (m : Int))), some (.d (.int (n : Int))), some (.ol (ss.map Stp.d)), j6', j7', j8', j9', j10', j11] ∧ StpsOk m n ss ∧ ss.length ≤ cnt ∧ (1 ≤ cnt → 1 ≤ ss.length) ∧ ∀ (k : Nat) (s : Stp), ss[k]? = some s → NewStp (ss.take k) s := by
  obtain ⟨env', e1, ss, j6', j7', j8', j9', j10', rfl, h1, h2, h3, h4⟩ := loopF_ex (tg := .nm 6) (f := L0__law_program) (fun i env => ∃ ss j6 j7 j8 j9 j10, env = [some (.sc ns), some (.d (.int (k : Int))), some (.ol (nd.map natI)), some (.d (.int (m : Int))), some (.d (.int (n : Int))), some (.ol (ss.map Stp.d)), j6, j7, j8, j9, j10, j11] ∧ StpsOk m n ss ∧ ss.length ≤ i ∧ (1 ≤ i → 1 ≤ ss.length) ∧ ∀ (k : Nat) (s : Stp), ss[k]? = some s → NewStp (ss.take k) s) natI (List.range cnt)
    [some (.sc ns), some (.d (.int (k : Int))), some (.ol (nd.map natI)), some (.d (.int (m : Int))), some (.d (.int (n : Int))), some (.ol []), j6, j7, j8, j9, j10, j11] (by
      rintro i env x hx ⟨ss, j6, j7, j8, j9, j10, rfl, h1, h2, h3, h4⟩
      obtain ⟨rfl, hi⟩ := range_at hx
      obtain ⟨od, ed, hl, hb⟩ := draw_nat ns (k + 1 + x % 6) szT (by decide) (by decide)
      obtain ⟨r0, q0, b0⟩ := hb 0 3 rfl
      obtain ⟨r1, q1, b1⟩ := hb 1 5 rfl
      obtain ⟨r2, q2, b2⟩ := hb 2 997 rfl
      obtain ⟨r3, q3, b3⟩ := hb 3 5 rfl
      obtain ⟨r4, q4, b4⟩ := hb 4 991 rfl
      have a0 : atI (od.map natI) 0 = some (.int (r0 : Int)) := atI_nats (i := 0) q0
      have a1 : atI (od.map natI) 1 = some (.int (r1 : Int)) := atI_nats (i := 1) q1
      have a2 : atI (od.map natI) 2 = some (.int (r2 : Int)) := atI_nats (i := 2) q2
      have a3 : atI (od.map natI) 3 = some (.int (r3 : Int)) := atI_nats (i := 3) q3
      have a4 : atI (od.map natI) 4 = some (.int (r4 : Int)) := atI_nats (i := 4) q4
      have ed : F__law_draw [.sc ns, .d (.int ((k : Int) + 1 + (x : Int) % 6)), .d (.list [.int 3, .int 5, .int 997, .int 5, .int 991])] = .ok (.ol (od.map natI)) := by
        rw [show (k : Int) + 1 + (x : Int) % 6 = ((k + 1 + x % 6 : Nat) : Int) by omega]
        exact ed
      obtain ⟨o1, f1, v1⟩ := operand_t r1 (r2 + 7 * x) m n ss.length hm hm2 hn hn2 (by omega)
      obtain ⟨o2, f2, v2⟩ := operand_t r3 (r4 + 3 * x) m n ss.length hm hm2 hn hn2 (by omega)
      rw [show ((r2 + 7 * x : Nat) : Int) = (r2 : Int) + 7 * (x : Int) by omega] at f1
      rw [show ((r4 + 3 * x : Nat) : Int) = (r4 : Int) + 3 * (x : Int) by omega] at f2
      have hop := ops_ix ((r0 + x / 6) % 3) (Nat.mod_lt _ (by decide))
      rw [show (((r0 + x / 6) % 3 : Nat) : Int) = ((r0 : Int) + (x : Int) / 6) % 3 by omega] at hop
      generalize opN ((r0 + x / 6) % 3) = op at *
      have m7 : (7 : Int).natAbs < 18446744073709551616 ∨ ((x : Int)).natAbs < 18446744073709551616 := .inl (by decide)
      have m3 : (3 : Int).natAbs < 18446744073709551616 ∨ ((x : Int)).natAbs < 18446744073709551616 := .inl (by decide)
      have z6 : (0 : Int) < 6 := by decide
      have z3 : (0 : Int) < 3 := by decide
      have y6 : (0 : Int) < 6 ∧ (6 : Int).natAbs < 1073741824 := by decide
      have ll : (ss.map Stp.d).length = ss.length := List.length_map _
      have sh1 : SeqAt.shaped (.tuple [.str op.str, .str o1.str, .str o2.str]) = true := (Stp.nice ⟨op, o1, o2⟩).shaped (by decide)
      have sh2 : SeqAt.shaped (.list (ss.map Stp.d)) = true := (stps_nice ss).shaped (by decide)
      have hz : ss.length ≤ 1000000 := by omega
      obtain ⟨t, ht⟩ : ∃ t : Bool, ((ss.map Stp.d).any fun z => PyData.eqv z (.tuple [.str op.str, .str o1.str, .str o2.str])) = t := ⟨_, rfl⟩
      have t0 : ss = [] → t = false := fun e => by rw [← ht, e]; rfl
      have nw : t = false → NewStp ss ⟨op, o1, o2⟩ := fun e => by rw [e] at ht; exact ht
      have st : L0__law_program [some (.sc ns), some (.d (.int (k : Int))), some (.ol (nd.map natI)), some (.d (.int (m : Int))), some (.d (.int (n : Int))), some (.ol (ss.map Stp.d)), some (.d (.int (x : Int))), j7, j8, j9, j10, j11] =
          .nx [some (.sc ns), some (.d (.int (k : Int))), some (.ol (nd.map natI)), some (.d (.int (m : Int))), some (.d (.int (n : Int))), some (.ol (if t then ss.map Stp.d else ss.map Stp.d ++ [.tuple [.str op.str, .str o1.str, .str o2.str]])), some (.d (.int (x : Int))), some (.ol (od.map natI)), some (.d (.str o1.str)), some (.d (.str o2.str)), some (.d (.tuple [.str op.str, .str o1.str, .str o2.str])), j11] := by
        unfold L0__law_program
        generalize ss.map Stp.d = SD at *
        generalize od.map natI = OD at *
        generalize nd.map natI = ND at *
        cases t <;> simp only [VT, oS, List.getElem?_cons_zero, List.getElem?_cons_succ, List.set_cons_succ, List.set_cons_zero, List.length_cons, List.length_nil, Nat.reduceAdd, Nat.reduceLT, Nat.reduceLeDiff, Nat.reduceEqDiff, if_true, if_false, List.map_cons, List.map_nil, Option.map_some, reduceIte, Option.bind_some, Option.bind_none, beq_self_eq_true, ed, a0, a1, a2, a3, a4, f1, f2, hop, m7, m3, z6, z3, y6, ll, sh1, sh2, hz, ht]
      refine ⟨_, rfl, _, .inl st, (if t then ss else ss ++ [⟨op, o1, o2⟩]), some (.d (.int (x : Int))), some (.ol (od.map natI)), some (.d (.str o1.str)), some (.d (.str o2.str)), some (.d (.tuple [.str op.str, .str o1.str, .str o2.str])), ?_, ?_, ?_, fun _ => ?_, ?_⟩
      · cases t
        · simp [Stp.d]
        · rfl
      · cases t with
        | true => exact h1
        | false => exact h1.snoc v1 v2
      · cases t <;> simp <;> omega
      · cases t with
        | true =>
          show 1 ≤ ss.length
          exact Nat.lt_of_not_le fun h => Bool.false_ne_true (t0 (List.eq_nil_of_length_eq_zero (by omega))).symm
        | false => simp
      · cases t with
        | true => exact h4
        | false =>
          intro k' s hk
          rw [if_neg (by decide)] at hk ⊢
          rcases Nat.lt_trichotomy k' ss.length with h | h | h
          · rw [List.getElem?_append_left h] at hk
            rw [List.take_append_of_le_length (by omega)]
            exact h4 k' s hk
          · subst h
            rw [List.getElem?_append_right (Nat.le_refl _), Nat.sub_self] at hk
            cases hk
            rw [List.take_append_of_le_length (Nat.le_refl _), List.take_length]
            exact nw rfl
          · rw [List.getElem?_eq_none (by simp; omega)] at hk
            cases hk) ⟨[], j6, j7, j8, j9, j10, rfl, fun k s h => by simp at h, by simp, by simp, fun k s h => by simp at h⟩
  rw [List.length_range] at h2 h3
  exact ⟨ss, j6', j7', j8', j9', j10', e1, h1, h2, h3, h4⟩
theorem bit_loop (p3 : Nat) (nd : List Nat) (h3 : nd[3]? = some p3) (hp : p3 < 256) (e0 e1 e3 e4 e5 e7 e8 e9 e10 : Option RV) (N : Nat) (hN : N ≤ 8) (e6 : Option RV) : ∃ (os : List Nat) (e6' : Option RV), loopF (.nm 6) L1__law_program ((List.range N).map natI) [e0, e1, some (.ol (nd.map natI)), e3, e4, e5, e6, e7, e8, e9, e10, some (.ol [])]
    = .nx [e0, e1, some (.ol (nd.map natI)), e3, e4, e5, e6', e7, e8, e9, e10, some (.ol (os.map natI))] ∧ os.Pairwise (· < ·) ∧ (∀ o ∈ os, o < N) ∧ os.length ≤ N := by
  obtain ⟨env', e, os, a, rfl, h1, h2, h4⟩ := loopF_ex (tg := .nm 6) (f := L1__law_program) (fun i env => ∃ (os : List Nat) (a : Option RV), env = [e0, e1, some (.ol (nd.map natI)), e3, e4, e5, a, e7, e8, e9, e10, some (.ol (os.map natI))] ∧ os.Pairwise (· < ·) ∧ (∀ o ∈ os, o < i) ∧ os.length ≤ i) natI (List.range N) [e0, e1, some (.ol (nd.map natI)), e3, e4, e5, e6, e7, e8, e9, e10, some (.ol [])]
    (fun i env x hx r => by
      obtain ⟨os, a, rfl, h1, h2, h4⟩ := r
      obtain ⟨rfl, hi⟩ := range_at hx
      have g3 : atI (nd.map natI) 3 = some (.int (p3 : Int)) := atI_nats (i := 3) h3
      obtain ⟨b, hb, hb1, hb2⟩ : ∃ b : Int, atI [PyData.int 1, .int 2, .int 4, .int 8, .int 16, .int 32, .int 64, .int 128] (x : Int) = some (.int b) ∧ 0 < b ∧ b.natAbs < 1073741824 := by
        have h8 : x = 0 ∨ x = 1 ∨ x = 2 ∨ x = 3 ∨ x = 4 ∨ x = 5 ∨ x = 6 ∨ x = 7 := by omega
        rcases h8 with rfl | rfl | rfl | rfl | rfl | rfl | rfl | rfl <;> exact ⟨_, rfl, by decide, by decide⟩
      have z2 : (0 : Int) < 2 := by decide
      have lz : os.length ≤ 1000000 := by omega
      obtain ⟨t, ht⟩ : ∃ t : Bool, decide (((p3 : Int) / b) % 2 = 1) = t := ⟨_, rfl⟩
      have st : L1__law_program [e0, e1, some (.ol (nd.map natI)), e3, e4, e5, some (.d (.int (x : Int))), e7, e8, e9, e10, some (.ol (os.map natI))] = .nx [e0, e1, some (.ol (nd.map natI)), e3, e4, e5, some (.d (.int (x : Int))), e7, e8, e9, e10, some (.ol (if t then os.map natI ++ [.int (x : Int)] else os.map natI))] := by
        have ll : (os.map natI).length = os.length := List.length_map _
        unfold L1__law_program
        generalize os.map natI = ON at *
        generalize nd.map natI = ND at *
        cases t <;> simp only [VT, oS, List.getElem?_cons_zero, List.getElem?_cons_succ, List.set_cons_succ, List.set_cons_zero, List.length_cons, List.length_nil, Nat.reduceAdd, Nat.reduceLT, Nat.reduceLeDiff, Nat.reduceEqDiff, if_true, if_false, List.map_cons, List.map_nil, Option.map_some, reduceIte, Option.bind_some, Option.bind_none, beq_self_eq_true, g3, hb, hb1, hb2, z2, ht, ll, lz]
      refine ⟨_, rfl, _, .inl st, (if t then os ++ [x] else os), some (.d (.int (x : Int))), ?_, ?_, ?_, ?_⟩
      · cases t
        · rfl
        · simp [natI]
      · cases t with
        | false => exact h1
        | true =>
          rw [if_pos rfl]
          exact List.pairwise_append.mpr ⟨h1, List.pairwise_singleton _ _, fun a ha b hb => by rw [List.mem_singleton.mp hb]; exact h2 a ha⟩
      · intro o ho
        cases t with
        | false => have := h2 o ho; omega
        | true =>
          rw [if_pos rfl] at ho
          rcases List.mem_append.mp ho with z | z
          · have := h2 o z; omega
          · rw [List.mem_singleton.mp z]; omega
      · cases t <;> simp <;> omega) ⟨[], e6, rfl, .nil, by simp, by simp⟩
  rw [List.length_range] at h2 h4
  exact ⟨os, a, e, h1, h2, h4⟩
def szU : List Nat := [9, 6, 8, 256, 999]
theorem program_t (ns : List Int) (k : Nat) : ∃ (m n : Nat) (ss : List Stp) (os : List Nat), F__law_program [.sc ns, .d (.int (k : Int))] = .ok (.d (progT m n ss os)) ∧ GoodT m n ss os := by
  obtain ⟨nd, ed, hl, hb⟩ := draw_nat ns k szU (by decide) (by decide)
  obtain ⟨p0, q0, b0⟩ := hb 0 9 rfl
  obtain ⟨p1, q1, b1⟩ := hb 1 6 rfl
  obtain ⟨p2, q2, b2⟩ := hb 2 8 rfl
  obtain ⟨p3, q3, b3⟩ := hb 3 256 rfl
  obtain ⟨p4, q4, b4⟩ := hb 4 999 rfl
  have a0 : atI (nd.map natI) 0 = some (.int (p0 : Int)) := atI_nats (i := 0) q0
  have a1 : atI (nd.map natI) 1 = some (.int (p1 : Int)) := atI_nats (i := 1) q1
  have a2 : atI (nd.map natI) 2 = some (.int (p2 : Int)) := atI_nats (i := 2) q2
  have a4 : atI (nd.map natI) 4 = some (.int (p4 : Int)) := atI_nats (i := 4) q4
  have ed : F__law_draw [.sc ns, .d (.int (k : Int)), .d (.list [.int 9, .int 6, .int 8, .int 256, .int 999])] = .ok (.ol (nd.map natI)) := ed
  obtain ⟨m, hm, hm1, hm2⟩ : ∃ m : Nat, atI [PyData.int 2, .int 3, .int 7, .int 10, .int 97, .int 100, .int 999, .int 1000, .int (2 + (p4 : Int))] (p0 : Int) = some (.int (m : Int)) ∧ 2 ≤ m ∧ m ≤ 1000 := by
    have h9 : p0 = 0 ∨ p0 = 1 ∨ p0 = 2 ∨ p0 = 3 ∨ p0 = 4 ∨ p0 = 5 ∨ p0 = 6 ∨ p0 = 7 ∨ p0 = 8 := by omega
    rcases h9 with rfl | rfl | rfl | rfl | rfl | rfl | rfl | rfl | rfl
    · exact ⟨2, rfl, by omega, by omega⟩
    · exact ⟨3, rfl, by omega, by omega⟩
    · exact ⟨7, rfl, by omega, by omega⟩
    · exact ⟨10, rfl, by omega, by omega⟩
    · exact ⟨97, rfl, by omega, by omega⟩
    · exact ⟨100, rfl, by omega, by omega⟩
    · exact ⟨999, rfl, by omega, by omega⟩
    · exact ⟨1000, rfl, by omega, by omega⟩
    · exact ⟨2 + p4, by rw [show ((2 + p4 : Nat) : Int) = 2 + (p4 : Int) by omega]; rfl, by omega, by omega⟩
  obtain ⟨ss, j6, j7, j8, j9, j10, lp, s1, s2, s3, s4⟩ := prog_t ns k p3 nd m (1 + p1) (1 + p2) (by omega) hm1 hm2 (by omega) (by omega) none none none none none none
  have s3 := s3 (by omega)
  have en : ((1 + p1 : Nat) : Int) = 1 + (p1 : Int) := by omega
  rw [en] at lp
  obtain ⟨os0, k6, lq, o1, o2, o3⟩ := bit_loop p3 nd q3 b3 (some (.sc ns)) (some (.d (.int (k : Int)))) (some (.d (.int (m : Int)))) (some (.d (.int (1 + (p1 : Int))))) (some (.ol (ss.map Stp.d))) j7 j8 j9 j10 ss.length (by omega) j6
  have gr : gR1 [.d (.int (1 + (p2 : Int)))] = .ok ((List.range (1 + p2)).map natI) := by rw [show 1 + (p2 : Int) = ((1 + p2 : Nat) : Int) by omega, e_R1n (by omega), rng_nat]
  have gs : gR1 [.d (.int (ss.length : Int))] = .ok ((List.range ss.length).map natI) := by rw [e_R1n (by omega), rng_nat]
  have ll : (ss.map Stp.d).length = ss.length := List.length_map _
  have lo : (os0.map natI).length = os0.length := List.length_map _
  have main : ∀ (os : List Nat), (if decide ((os0.length : Int) = 0) then [PyData.int ((ss.length : Int) - 1)] else os0.map natI) = os.map natI → F__law_program [.sc ns, .d (.int (k : Int))] = .ok (.d (progT m (1 + p1) ss os)) := by
    intro os ho
    unfold progT progD
    rw [en]
    show (B__law_program [some (.sc ns), some (.d (.int (k : Int))), none, none, none, none, none, none, none, none, none, none]).fin = _
    unfold B__law_program
    generalize os.map natI = OS at *
    generalize (List.range (1 + p2)).map natI = RG at *
    generalize (List.range ss.length).map natI = RH at *
    generalize os0.map natI = ON at *
    generalize ss.map Stp.d = SD at *
    generalize nd.map natI = ND at *
    cases hd : decide ((os0.length : Int) = 0) with
    | true =>
      rw [hd] at ho
      have ho : [PyData.int ((ss.length : Int) - 1)] = OS := ho
      subst ho
      simp only [VT, oS, List.getElem?_cons_zero, List.getElem?_cons_succ, List.set_cons_succ, List.set_cons_zero, List.length_cons, List.length_nil, Nat.reduceAdd, Nat.reduceLT, Nat.reduceLeDiff, Nat.reduceEqDiff, if_true, if_false, List.map_cons, List.map_nil, Option.map_some, reduceIte, Option.bind_some, Option.bind_none, beq_self_eq_true, ed, a0, a1, a2, a4, hm, lp, lq, gr, gs, ll, lo, hd]
    | false =>
      rw [hd] at ho
      have ho : ON = OS := ho
      subst ho
      simp only [VT, oS, List.getElem?_cons_zero, List.getElem?_cons_succ, List.set_cons_succ, List.set_cons_zero, List.length_cons, List.length_nil, Nat.reduceAdd, Nat.reduceLT, Nat.reduceLeDiff, Nat.reduceEqDiff, if_true, if_false, List.map_cons, List.map_nil, Option.map_some, reduceIte, Option.bind_some, Option.bind_none, beq_self_eq_true, ed, a0, a1, a2, a4, hm, lp, lq, gr, gs, ll, lo, hd]
  by_cases c : os0.length = 0
  · refine ⟨m, 1 + p1, ss, [ss.length - 1], main _ ?_, ⟨hm1, hm2, by omega, by omega, s1, by omega, s4, List.pairwise_singleton _ _, fun o ho => ?_, by simp, by simp⟩⟩
    · rw [decide_eq_true (by omega), if_pos rfl]
      show [PyData.int ((ss.length : Int) - 1)] = [PyData.int ((ss.length - 1 : Nat) : Int)]
      rw [show ((ss.length - 1 : Nat) : Int) = (ss.length : Int) - 1 by omega]
    · rw [List.mem_singleton.mp ho]; omega
  · refine ⟨m, 1 + p1, ss, os0, main _ ?_, ⟨hm1, hm2, by omega, by omega, s1, by omega, s4, o1, o2, fun e => c (by rw [e]; rfl), by omega⟩⟩
    rw [decide_eq_false (by omega)]
    rfl
section
variable {m n : Nat} {ss : List Stp} {os : List Nat}
theorem ll_loop (g : GoodT m n ss os) (e6 e7 e2 e3 e4 e5 : Option RV) : ∃ e2' e3' e4' e5',
    loopF (.nm 2) L0__law_lines ((List.range ss.length).map natI) [some (.d (.tuple [.int (m : Int), .int (n : Int), .tuple (ss.map Stp.d), .tuple (os.map natI)])), some (.ol [.str (lnM m), .str (lnI n)]), e2, e3, e4, e5, e6, e7] =
      .nx [some (.d (.tuple [.int (m : Int), .int (n : Int), .tuple (ss.map Stp.d), .tuple (os.map natI)])), some (.ol (.str (lnM m) :: .str (lnI n) :: (lnSs ss).map .str)), e2', e3', e4', e5', e6, e7] := by
  obtain ⟨env', e, a, b, c, d, rfl⟩ := loopF_ex (tg := .nm 2) (f := L0__law_lines) (fun i env => ∃ a b c d, env = [some (.d (.tuple [.int (m : Int), .int (n : Int), .tuple (ss.map Stp.d), .tuple (os.map natI)])), some (.ol (.str (lnM m) :: .str (lnI n) :: (lnSs (ss.take i)).map .str)), a, b, c, d, e6, e7]) natI (List.range ss.length) [some (.d (.tuple [.int (m : Int), .int (n : Int), .tuple (ss.map Stp.d), .tuple (os.map natI)])), some (.ol [.str (lnM m), .str (lnI n)]), e2, e3, e4, e5, e6, e7]
    (fun i env x hx r => by
      obtain ⟨a, b, c, d, rfl⟩ := r
      obtain ⟨rfl, hi⟩ := range_at hx
      have h8 := g.s8
      have hk : ss[x]? = some ss[x] := List.getElem?_eq_getElem hi
      obtain ⟨sl, sr⟩ := g.sm hk
      generalize hs : ss[x] = s at *
      refine ⟨[some (.d (.tuple [.int (m : Int), .int (n : Int), .tuple (ss.map Stp.d), .tuple (os.map natI)])), some (.ol (.str (lnM m) :: .str (lnI n) :: (lnSs (ss.take x)).map .str)), some (.d (.int (x : Int))), b, c, d, e6, e7], rfl, [some (.d (.tuple [.int (m : Int), .int (n : Int), .tuple (ss.map Stp.d), .tuple (os.map natI)])), some (.ol (.str (lnM m) :: .str (lnI n) :: (lnSs (ss.take (x + 1))).map .str)), some (.d (.int (x : Int))), some (.d (.str s.op.str)), some (.d (.str s.l.str)), some (.d (.str s.r.str)), e6, e7], .inl ?_, _, _, _, _, rfl⟩
      have ga : atI (ss.map Stp.d) (x : Int) = some (.tuple [.str s.op.str, .str s.l.str, .str s.r.str]) := by
        rw [atI_lt (by omega) (by simpa using hi)]
        simp [hi, hs, Stp.d]
      have tk : (ss.take x).length = x := by rw [List.length_take]; omega
      have nx : (PyData.str (lnM m) :: .str (lnI n) :: (lnSs (ss.take x)).map .str) ++ [.str (lnS x s)] = .str (lnM m) :: .str (lnI n) :: (lnSs (ss.take (x + 1))).map .str := by
        rw [List.take_succ_eq_append_getElem hi, hs, lnSs_snoc, tk, List.map_append]
        rfl
      have lz : (PyData.str (lnM m) :: .str (lnI n) :: (lnSs (ss.take x)).map PyData.str).length ≤ 1000000 := by
        simp [lnSs_len]
        omega
      have z1 := op_len s.op
      have z2 := opd_size sl
      have z3 := opd_size sr
      have y1 := s_len
      have y2 := seqs_len
      have y3 := sp_len
      have y4 := num_len (n := x) (by omega)
      have c1 := str_ok (n := x) (by omega)
      have w1 := len_app "s" (numS x)
      have g1 : gAdd (.d (.str "s")) (.d (.str (numS x))) = .ok (.d (.str ("s" ++ numS x))) := add_st (by omega) (by omega)
      have w2 := len_app ("s" ++ numS x) " = "
      have g2 : gAdd (.d (.str ("s" ++ numS x))) (.d (.str " = ")) = .ok (.d (.str ("s" ++ numS x ++ " = "))) := add_st (by omega) (by omega)
      have w3 := len_app ("s" ++ numS x ++ " = ") s.l.str
      have g3 : gAdd (.d (.str ("s" ++ numS x ++ " = "))) (.d (.str s.l.str)) = .ok (.d (.str ("s" ++ numS x ++ " = " ++ s.l.str))) := add_st (by omega) (by omega)
      have w4 := len_app ("s" ++ numS x ++ " = " ++ s.l.str) " "
      have g4 : gAdd (.d (.str ("s" ++ numS x ++ " = " ++ s.l.str))) (.d (.str " ")) = .ok (.d (.str ("s" ++ numS x ++ " = " ++ s.l.str ++ " "))) := add_st (by omega) (by omega)
      have w5 := len_app ("s" ++ numS x ++ " = " ++ s.l.str ++ " ") s.op.str
      have g5 : gAdd (.d (.str ("s" ++ numS x ++ " = " ++ s.l.str ++ " "))) (.d (.str s.op.str)) = .ok (.d (.str ("s" ++ numS x ++ " = " ++ s.l.str ++ " " ++ s.op.str))) := add_st (by omega) (by omega)
      have w6 := len_app ("s" ++ numS x ++ " = " ++ s.l.str ++ " " ++ s.op.str) " "
      have g6 : gAdd (.d (.str ("s" ++ numS x ++ " = " ++ s.l.str ++ " " ++ s.op.str))) (.d (.str " ")) = .ok (.d (.str ("s" ++ numS x ++ " = " ++ s.l.str ++ " " ++ s.op.str ++ " "))) := add_st (by omega) (by omega)
      have fin : "s" ++ numS x ++ " = " ++ s.l.str ++ " " ++ s.op.str ++ " " ++ s.r.str = lnS x s := str_ext (by
        rw [app_l, app_l, app_l, app_l, app_l, app_l, app_l, s_l, num_l, seqs_l, sp_l, lnS_l]
        simp)
      have g7 : gAdd (.d (.str ("s" ++ numS x ++ " = " ++ s.l.str ++ " " ++ s.op.str ++ " "))) (.d (.str s.r.str)) = .ok (.d (.str (lnS x s))) := by
        rw [← fin]
        exact add_st (by omega) (by omega)
      rw [← nx]
      clear w1 w2 w3 w4 w5 w6 fin nx
      unfold L0__law_lines
      generalize lnS x s = T8 at *
      generalize "s" ++ numS x ++ " = " ++ s.l.str ++ " " ++ s.op.str ++ " " = T7 at *
      generalize "s" ++ numS x ++ " = " ++ s.l.str ++ " " ++ s.op.str = T6 at *
      generalize "s" ++ numS x ++ " = " ++ s.l.str ++ " " = T5 at *
      generalize "s" ++ numS x ++ " = " ++ s.l.str = T4 at *
      generalize "s" ++ numS x ++ " = " = T3 at *
      generalize "s" ++ numS x = T2 at *
      generalize (PyData.str (lnM m) :: .str (lnI n) :: (lnSs (ss.take x)).map PyData.str) = LS at *
      generalize ss.map Stp.d = SD at *
      generalize os.map natI = OD at *
      simp only [VT, oS, List.getElem?_cons_zero, List.getElem?_cons_succ, List.set_cons_succ, List.set_cons_zero, List.length_cons, List.length_nil, Nat.reduceAdd, Nat.reduceLT, Nat.reduceLeDiff, Nat.reduceEqDiff, if_true, if_false, List.map_cons, List.map_nil, Option.map_some, reduceIte, Option.bind_some, Option.bind_none, beq_self_eq_true, ga, lz, c1, g1, g2, g3, g4, g5, g6, g7])
    ⟨_, _, _, _, rfl⟩
  rw [List.length_range, List.take_length] at e
  exact ⟨a, b, c, d, e⟩
theorem lr_loop (e0 e1 e2 e3 e4 e5 e7 : Option RV) (h8 : os.length ≤ 8) (hb : ∀ o ∈ os, o < 100000) (hl : ∀ i, (lnR (os.take i)).length ≤ 100) : ∃ e7', loopF (.nm 7) L1__law_lines (os.map natI) [e0, e1, e2, e3, e4, e5, some (.d (.str "return")), e7] = .nx [e0, e1, e2, e3, e4, e5, some (.d (.str (lnR os))), e7'] := by
  obtain ⟨env', e, a, rfl⟩ := loopF_ex (tg := .nm 7) (f := L1__law_lines) (fun i env => ∃ a, env = [e0, e1, e2, e3, e4, e5, some (.d (.str (lnR (os.take i)))), a]) natI os [e0, e1, e2, e3, e4, e5, some (.d (.str "return")), e7]
    (fun i env x hx r => by
      obtain ⟨a, rfl⟩ := r
      have hi := (List.getElem?_eq_some_iff.mp hx).1
      have ex := (List.getElem?_eq_some_iff.mp hx).2
      refine ⟨[e0, e1, e2, e3, e4, e5, some (.d (.str (lnR (os.take i)))), some (.d (.int (x : Int)))], rfl, [e0, e1, e2, e3, e4, e5, some (.d (.str (lnR (os.take (i + 1))))), some (.d (.int (x : Int)))], .inl ?_, _, rfl⟩
      have hl := hl i
      have hx' := hb x (by rw [← ex]; exact List.getElem_mem hi)
      have y1 := ss_len
      have y2 := num_len hx'
      have c1 := str_ok hx'
      have w1 := len_app (lnR (os.take i)) " s"
      have g1 : gAdd (.d (.str (lnR (os.take i)))) (.d (.str " s")) = .ok (.d (.str (lnR (os.take i) ++ " s"))) := add_st (by omega) (by omega)
      have g2 : gAdd (.d (.str (lnR (os.take i) ++ " s"))) (.d (.str (numS x))) = .ok (.d (.str (lnR (os.take (i + 1))))) := by
        rw [List.take_succ_eq_append_getElem hi, ex, lnR_snoc]
        exact add_st (by omega) (by omega)
      unfold L1__law_lines
      generalize lnR (os.take (i + 1)) = T3 at *
      generalize lnR (os.take i) ++ " s" = T2 at *
      generalize lnR (os.take i) = T1 at *
      simp only [VT, oS, List.getElem?_cons_zero, List.getElem?_cons_succ, List.set_cons_succ, List.set_cons_zero, List.length_cons, List.length_nil, Nat.reduceAdd, Nat.reduceLT, Nat.reduceLeDiff, Nat.reduceEqDiff, if_true, if_false, List.map_cons, List.map_nil, Option.map_some, reduceIte, Option.bind_some, Option.bind_none, beq_self_eq_true, c1, g1, g2])
    ⟨_, by rw [List.take_zero, lnR_nil]⟩
  rw [List.take_length] at e
  exact ⟨a, e⟩
theorem GoodT.lRl (g : GoodT m n ss os) (i : Nat) : (lnR (os.take i)).length ≤ 100 := by
  have := lnW_len (ws := ("return" : Str) :: (os.take i).map (lx "s")) fun w hw => by
    refine g.wR w ?_
    rcases List.mem_cons.mp hw with rfl | hw
    · exact List.mem_cons_self
    · obtain ⟨o, ho, rfl⟩ := List.mem_map.mp hw
      exact List.mem_cons_of_mem _ (List.mem_map.mpr ⟨o, List.mem_of_mem_take ho, rfl⟩)
  have h8 := g.o8
  rw [List.length_cons, List.length_map, List.length_take] at this
  show (lnW _).length ≤ 100
  omega
theorem lines_ok (g : GoodT m n ss os) : F__law_lines [.d (progT m n ss os)] = .ok (.ol ((lns m n ss os).map .str)) := by
  have h8 := g.s8
  have o8 := g.o8
  have hm := g.mh
  have hn := g.nh
  obtain ⟨e2', e3', e4', e5', lp⟩ := ll_loop g none none none none none none
  obtain ⟨e7', lq⟩ := lr_loop (os := os) (some (.d (.tuple [.int (m : Int), .int (n : Int), .tuple (ss.map Stp.d), .tuple (os.map natI)]))) (some (.ol (.str (lnM m) :: .str (lnI n) :: (lnSs ss).map .str))) e2' e3' e4' e5' none g.o8 (fun o ho => by have := g.hi o ho; omega) g.lRl
  have ll : (ss.map Stp.d).length = ss.length := List.length_map _
  have gr : gR1 [.d (.int (ss.length : Int))] = .ok ((List.range ss.length).map natI) := by rw [e_R1n (by omega), rng_nat]
  have c1 := str_ok (n := m) (by omega)
  have c2' := str_ok (n := n) (by omega)
  have g1 : gAdd (.d (.str "mod ")) (.d (.str (numS m))) = .ok (.d (.str (lnM m))) := by
    rw [show lnM m = "mod " ++ numS m from str_ext (by rw [app_l, mods_l, num_l, lnM_l]; rfl)]
    exact add_st (by have := mods_len; omega) (by have := num_len (n := m) (by omega); omega)
  have g2 : gAdd (.d (.str "inputs ")) (.d (.str (numS n))) = .ok (.d (.str (lnI n))) := by
    rw [show lnI n = "inputs " ++ numS n from str_ext (by rw [app_l, inps_l, num_l, lnI_l]; rfl)]
    exact add_st (by have := inps_len; omega) (by have := num_len (n := n) (by omega); omega)
  have la : (PyData.str (lnM m) :: .str (lnI n) :: (lnSs ss).map .str) ++ [.str (lnR os)] = (lns m n ss os).map .str := by unfold lns; simp
  have z1 : (PyData.str (lnM m) :: .str (lnI n) :: (lnSs ss).map PyData.str).length + 1 ≤ 1000000 := by simp [lnSs_len]; omega
  unfold progT progD
  show (B__law_lines [some (.d (.tuple [.int (m : Int), .int (n : Int), .tuple (ss.map Stp.d), .tuple (os.map natI)])), none, none, none, none, none, none, none]).fin = _
  unfold B__law_lines
  generalize (lns m n ss os).map PyData.str = LS at *
  generalize (PyData.str (lnM m) :: .str (lnI n) :: (lnSs ss).map PyData.str) = L1 at *
  generalize (List.range ss.length).map natI = RG at *
  generalize os.map natI = ON at *
  generalize ss.map Stp.d = SD at *
  generalize lnR os = WR at *
  simp only [VT, oS, List.getElem?_cons_zero, List.getElem?_cons_succ, List.set_cons_succ, List.set_cons_zero, List.length_cons, List.length_nil, Nat.reduceAdd, Nat.reduceLT, Nat.reduceLeDiff, Nat.reduceEqDiff, if_true, if_false, List.map_cons, List.map_nil, Option.map_some, reduceIte, Option.bind_some, Option.bind_none, beq_self_eq_true, c1, c2', g1, g2, ll, gr, lp, lq, la, z1]
end
def dgt (c : Nat) : Bool := decide (48 ≤ c) && decide (c ≤ 57)
def canB (cl : List Nat) : Bool := decide (1 ≤ cl.length) && decide (cl.length ≤ 6) && cl.all dgt && !(decide (1 < cl.length) && (cl.head? == some 48))
theorem dgt_dec (b : Nat) : decide (b ∈ digS.cps.toList) = dgt b := by
  unfold dgt
  rw [← Bool.decide_and]
  exact decide_eq_decide.mpr (dig_iff b)
theorem all_dgt (s : Str) : (s.cps.toList.all fun b => decide (b ∈ digS.cps.toList)) = s.cps.toList.all dgt := by
  congr 1
  funext b
  exact dgt_dec b
theorem can_head {s : Str} (hl : s.length ≤ 1000000) (ok : ∀ c ∈ s.cps.toList, c < 200) (h1 : 1 ≤ s.length) : ∃ h : Str, gIx (.d (.str s)) (.d (.int 0)) = .ok (.d (.str h)) ∧ SeqAt.shaped (.str h) = true ∧ PyData.eqv (.str h) (.str "0") = (s.cps.toList.head? == some 48) := by
  have hs := str_size s
  match e : s.cps.toList with
  | [] => rw [e] at hs; simp at hs; omega
  | d :: r =>
    refine ⟨⟨#[d]⟩, ix0_str e hl, sh_str (one_ok (ok d (by rw [e]; simp))), ?_⟩
    rw [zero_str, eqv_str]
    by_cases c : d = 48
    · subst c; simp
    · rw [decide_eq_false (one_ne c)]
      simp [c]
theorem number_bad {s : Str} (hl : s.length ≤ 1000000) (ok : ∀ c ∈ s.cps.toList, c < 200) (h : canB s.cps.toList = false) : F_number_of [.d (.str s)] = .ok (.d .none) := by
  have hs := str_size s
  have gl : gLen [.d (.str s)] = .ok (.d (.int (s.length : Int))) := by rw [e_lenS, if_pos hl]
  have ac : cAllC digS (cV 0) [some (.d (.str s))] = .ok (.d (.bool (s.cps.toList.all dgt))) := by
    rw [← all_dgt]
    rfl
  have ac : cAllC "0123456789" (cV 0) [some (.d (.str s))] = .ok (.d (.bool (s.cps.toList.all dgt))) := ac
  show (B_number_of [some (.d (.str s))]).fin = _
  unfold B_number_of
  cases d1 : decide ((1 : Int) ≤ (s.length : Int)) with
  | false =>
    generalize s.cps.toList.all dgt = q at *
    simp only [VT, oS, List.getElem?_cons_zero, List.getElem?_cons_succ, List.set_cons_succ, List.set_cons_zero, List.length_cons, List.length_nil, Nat.reduceAdd, Nat.reduceLT, Nat.reduceLeDiff, Nat.reduceEqDiff, if_true, if_false, List.map_cons, List.map_nil, Option.map_some, reduceIte, Option.bind_some, Option.bind_none, List.append_nil, List.nil_append, List.cons_append, beq_self_eq_true, gl, d1, ac]
  | true =>
    have h1 : 1 ≤ s.length := by have := of_decide_eq_true d1; omega
    obtain ⟨hh, ix, sh, ev⟩ := can_head hl ok h1
    have s2 := sh_str (one_ok (d := 48) (by omega))
    rw [← zero_str] at s2
    cases d2 : decide ((s.length : Int) ≤ 6) with
    | false =>
      generalize s.cps.toList.all dgt = q at *
      simp only [VT, oS, List.getElem?_cons_zero, List.getElem?_cons_succ, List.set_cons_succ, List.set_cons_zero, List.length_cons, List.length_nil, Nat.reduceAdd, Nat.reduceLT, Nat.reduceLeDiff, Nat.reduceEqDiff, if_true, if_false, List.map_cons, List.map_nil, Option.map_some, reduceIte, Option.bind_some, Option.bind_none, List.append_nil, List.nil_append, List.cons_append, beq_self_eq_true, gl, d1, d2, ac]
    | true =>
      have h2 : s.length ≤ 6 := by have := of_decide_eq_true d2; omega
      cases al : s.cps.toList.all dgt with
      | false =>
        rw [al] at ac
        simp only [VT, oS, List.getElem?_cons_zero, List.getElem?_cons_succ, List.set_cons_succ, List.set_cons_zero, List.length_cons, List.length_nil, Nat.reduceAdd, Nat.reduceLT, Nat.reduceLeDiff, Nat.reduceEqDiff, if_true, if_false, List.map_cons, List.map_nil, Option.map_some, reduceIte, Option.bind_some, Option.bind_none, List.append_nil, List.nil_append, List.cons_append, beq_self_eq_true, gl, d1, d2, ac]
      | true =>
        rw [al] at ac
        have hq : (decide (1 < s.cps.toList.length) && (s.cps.toList.head? == some 48)) = true := by
          unfold canB at h
          rw [decide_eq_true (show 1 ≤ s.cps.toList.length by omega), decide_eq_true (show s.cps.toList.length ≤ 6 by omega), al] at h
          simpa using h
        rw [Bool.and_eq_true] at hq
        have d3 : decide ((s.length : Int) > 1) = true := decide_eq_true (by have := of_decide_eq_true hq.1; omega)
        rw [hq.2] at ev
        simp only [VT, oS, List.getElem?_cons_zero, List.getElem?_cons_succ, List.set_cons_succ, List.set_cons_zero, List.length_cons, List.length_nil, Nat.reduceAdd, Nat.reduceLT, Nat.reduceLeDiff, Nat.reduceEqDiff, if_true, if_false, List.map_cons, List.map_nil, Option.map_some, reduceIte, Option.bind_some, Option.bind_none, List.append_nil, List.nil_append, List.cons_append, beq_self_eq_true, gl, d1, d2, ac, d3, ix, sh, s2, ev]
theorem in_dig (c : Nat) : gInB (.d (.str ⟨#[c]⟩)) (.d (.str digS)) = .ok (dgt c) := by
  show Rs.ok (!(Builtin.Str.occurrences digS ⟨#[c]⟩ 0 digS.length 1).isEmpty) = _
  rw [PySem.StrLaws.found_one, dgt_dec]
theorem in_dig' (c : Nat) : gInB (.d (.str ⟨#[c]⟩)) (.d (.str "0123456789")) = .ok (dgt c) := in_dig c
theorem ln_loop (e0 : Option RV) : ∀ (cs : List Nat) (e1 : Option RV), ∃ e1', loopF (.nm 1) L0__law_number (cs.map fun c => .str ⟨#[c]⟩) [e0, e1] = if cs.all dgt = true then .nx [e0, e1'] else .rt (.d .none)
  | [], e1 => ⟨e1, rfl⟩
  | c :: cs, e1 => by
    obtain ⟨e1', ih⟩ := ln_loop e0 cs (some (.d (.str ⟨#[c]⟩)))
    refine ⟨e1', ?_⟩
    rw [List.map_cons, loopF_cons]
    have t : tgE (.nm 1) (.str ⟨#[c]⟩) [e0, e1] = some [e0, some (.d (.str ⟨#[c]⟩))] := rfl
    have ig := in_dig' c
    rw [t, List.all_cons]
    cases q : dgt c with
    | true =>
      rw [q] at ig
      have st : L0__law_number [e0, some (.d (.str ⟨#[c]⟩))] = .nx [e0, some (.d (.str ⟨#[c]⟩))] := by
        unfold L0__law_number
        generalize (⟨#[c]⟩ : Str) = W at *
        simp only [VT, oS, List.getElem?_cons_zero, List.getElem?_cons_succ, List.set_cons_succ, List.set_cons_zero, List.length_cons, List.length_nil, Nat.reduceAdd, Nat.reduceLT, Nat.reduceLeDiff, Nat.reduceEqDiff, if_true, if_false, List.map_cons, List.map_nil, Option.map_some, reduceIte, Option.bind_some, Option.bind_none, List.append_nil, List.nil_append, List.cons_append, beq_self_eq_true, ig]
      simp only [st, lp_nx]
      rw [ih, Bool.true_and]
    | false =>
      rw [q] at ig
      have st : L0__law_number [e0, some (.d (.str ⟨#[c]⟩))] = .rt (.d .none) := by
        unfold L0__law_number
        generalize (⟨#[c]⟩ : Str) = W at *
        simp only [VT, oS, List.getElem?_cons_zero, List.getElem?_cons_succ, List.set_cons_succ, List.set_cons_zero, List.length_cons, List.length_nil, Nat.reduceAdd, Nat.reduceLT, Nat.reduceLeDiff, Nat.reduceEqDiff, if_true, if_false, List.map_cons, List.map_nil, Option.map_some, reduceIte, Option.bind_some, Option.bind_none, List.append_nil, List.nil_append, List.cons_append, beq_self_eq_true, ig]
      simp only [st]
      rw [Bool.false_and, if_neg (by decide)]
      rfl
theorem lnumber_gen {s : Str} {q : Int} (hl : s.length ≤ 1000000) (ok : ∀ c ∈ s.cps.toList, c < 200) (gi : canB s.cps.toList = true → gInt [.d (.str s)] = .ok (.d (.int q))) : F__law_number [.d (.str s)] = .ok (if canB s.cps.toList = true then .d (.int q) else .d .none) := by
  have hs := str_size s
  have gl : gLen [.d (.str s)] = .ok (.d (.int (s.length : Int))) := by rw [e_lenS, if_pos hl]
  have is : iSg (cV 0) [some (.d (.str s)), none] = .ok (s.cps.toList.map fun c => .str ⟨#[c]⟩) := rfl
  obtain ⟨e1', lp⟩ := ln_loop (some (.d (.str s))) s.cps.toList none
  show (B__law_number [some (.d (.str s)), none]).fin = _
  unfold B__law_number
  cases d1 : decide ((1 : Int) ≤ (s.length : Int)) with
  | false =>
    have h1 : canB s.cps.toList = false := by
      unfold canB
      rw [decide_eq_false (show ¬ 1 ≤ s.cps.toList.length by have := of_decide_eq_false d1; omega)]
      rfl
    rw [h1, if_neg (by decide)]
    simp only [VT, oS, List.getElem?_cons_zero, List.getElem?_cons_succ, List.set_cons_succ, List.set_cons_zero, List.length_cons, List.length_nil, Nat.reduceAdd, Nat.reduceLT, Nat.reduceLeDiff, Nat.reduceEqDiff, if_true, if_false, List.map_cons, List.map_nil, Option.map_some, reduceIte, Option.bind_some, Option.bind_none, List.append_nil, List.nil_append, List.cons_append, beq_self_eq_true, gl, d1]
  | true =>
    have h1 : 1 ≤ s.length := by have := of_decide_eq_true d1; omega
    obtain ⟨hh, ix, sh, ev⟩ := can_head hl ok h1
    have s2 := sh_str (one_ok (d := 48) (by omega))
    rw [← zero_str] at s2
    cases d2 : decide ((s.length : Int) ≤ 6) with
    | false =>
      have h1 : canB s.cps.toList = false := by
        unfold canB
        rw [decide_eq_false (show ¬ s.cps.toList.length ≤ 6 by have := of_decide_eq_false d2; omega), Bool.and_false]
        rfl
      rw [h1, if_neg (by decide)]
      simp only [VT, oS, List.getElem?_cons_zero, List.getElem?_cons_succ, List.set_cons_succ, List.set_cons_zero, List.length_cons, List.length_nil, Nat.reduceAdd, Nat.reduceLT, Nat.reduceLeDiff, Nat.reduceEqDiff, if_true, if_false, List.map_cons, List.map_nil, Option.map_some, reduceIte, Option.bind_some, Option.bind_none, List.append_nil, List.nil_append, List.cons_append, beq_self_eq_true, gl, d1, d2]
    | true =>
      have h2 : s.length ≤ 6 := by have := of_decide_eq_true d2; omega
      cases al : s.cps.toList.all dgt with
      | false =>
        have h1 : canB s.cps.toList = false := by
          unfold canB
          rw [al, Bool.and_false]
          rfl
        rw [h1, if_neg (by decide)]
        rw [al, if_neg (by decide)] at lp
        generalize (s.cps.toList.map fun c => PyData.str ⟨#[c]⟩) = CL at *
        simp only [VT, oS, List.getElem?_cons_zero, List.getElem?_cons_succ, List.set_cons_succ, List.set_cons_zero, List.length_cons, List.length_nil, Nat.reduceAdd, Nat.reduceLT, Nat.reduceLeDiff, Nat.reduceEqDiff, if_true, if_false, List.map_cons, List.map_nil, Option.map_some, reduceIte, Option.bind_some, Option.bind_none, List.append_nil, List.nil_append, List.cons_append, beq_self_eq_true, gl, d1, d2, is, lp]
      | true =>
        rw [al, if_pos rfl] at lp
        have hc : canB s.cps.toList = !(decide (1 < s.cps.toList.length) && (s.cps.toList.head? == some 48)) := by
          unfold canB
          rw [decide_eq_true (show 1 ≤ s.cps.toList.length by omega), decide_eq_true (show s.cps.toList.length ≤ 6 by omega), al]
          rfl
        rw [hc] at gi ⊢
        rw [← ev] at gi ⊢
        have d3 : decide ((s.length : Int) > 1) = decide (1 < s.cps.toList.length) := decide_eq_decide.mpr (by omega)
        generalize (s.cps.toList.map fun c => PyData.str ⟨#[c]⟩) = CL at *
        cases d4 : decide (1 < s.cps.toList.length) with
        | false =>
          rw [d4] at d3 gi
          have gi := gi rfl
          rw [if_pos (show (!(false && PyData.eqv (.str hh) (.str "0"))) = true from rfl)]
          simp only [VT, oS, List.getElem?_cons_zero, List.getElem?_cons_succ, List.set_cons_succ, List.set_cons_zero, List.length_cons, List.length_nil, Nat.reduceAdd, Nat.reduceLT, Nat.reduceLeDiff, Nat.reduceEqDiff, if_true, if_false, List.map_cons, List.map_nil, Option.map_some, reduceIte, Option.bind_some, Option.bind_none, List.append_nil, List.nil_append, List.cons_append, beq_self_eq_true, gl, d1, d2, is, lp, d3, gi]
        | true =>
          rw [d4] at d3 gi
          cases d5 : PyData.eqv (.str hh) (.str "0") with
          | false =>
            rw [d5] at gi
            have gi := gi rfl
            rw [if_pos (show (!(true && false)) = true from rfl)]
            simp only [VT, oS, List.getElem?_cons_zero, List.getElem?_cons_succ, List.set_cons_succ, List.set_cons_zero, List.length_cons, List.length_nil, Nat.reduceAdd, Nat.reduceLT, Nat.reduceLeDiff, Nat.reduceEqDiff, if_true, if_false, List.map_cons, List.map_nil, Option.map_some, reduceIte, Option.bind_some, Option.bind_none, List.append_nil, List.nil_append, List.cons_append, beq_self_eq_true, gl, d1, d2, is, lp, d3, gi, ix, sh, s2, d5]
          | true =>
            rw [if_neg (by decide)]
            simp only [VT, oS, List.getElem?_cons_zero, List.getElem?_cons_succ, List.set_cons_succ, List.set_cons_zero, List.length_cons, List.length_nil, Nat.reduceAdd, Nat.reduceLT, Nat.reduceLeDiff, Nat.reduceEqDiff, if_true, if_false, List.map_cons, List.map_nil, Option.map_some, reduceIte, Option.bind_some, Option.bind_none, List.append_nil, List.nil_append, List.cons_append, beq_self_eq_true, gl, d1, d2, is, lp, d3, ix, sh, s2, d5]
def litL : List Str := ["", "mod", "inputs", "return", "=", "+", "-", "*", "007", "s00", "returns", "y0", "x", "s", ":=", "/", "#", "remark", "-1", "01", "1000000"]
theorem litL_len : litL.length = 21 := rfl
def litF (i : Fin 21) : Str := litL[i.val]'(by rw [litL_len]; exact i.2)
inductive Wd where
  | op (o : Opd)
  | li (i : Fin 21)
def Wd.str : Wd → Str
  | .op o => o.str
  | .li i => litF i
def Wd.ok : Wd → Prop
  | .op o => o.small
  | .li _ => True
def Wd.nu : Wd → Option Nat
  | .op (.c v) => some v
  | _ => none
def Wd.xb : Wd → Option Nat
  | .op (.x v) => some v
  | _ => none
def Wd.sb : Wd → Option Nat
  | .op (.s v) => some v
  | _ => none
def optR : Option Nat → RV
  | none => .d .none
  | some n => .d (.int (n : Int))
theorem lit_can : ∀ i, canB (litF i).cps.toList = false := by decide +kernel
theorem lit_vis : ∀ i, ((litF i).cps.toList.all fun c => decide (32 < c) && decide (c < 200)) = true := by decide +kernel
theorem lit_len : ∀ i, (litF i).cps.toList.length ≤ 7 := by decide +kernel
theorem lit_tl : ∀ i, canB ((litF i).cps.toList.drop 1) = false ∨ ((litF i).cps.toList.head? ≠ some 120 ∧ (litF i).cps.toList.head? ≠ some 115) := by decide +kernel
theorem lit_v (i : Fin 21) {c : Nat} (h : c ∈ (litF i).cps.toList) : 32 < c ∧ c < 200 := by
  have := List.all_eq_true.mp (lit_vis i) c h
  simpa using this
structure Word7 (s : Str) : Prop where
  vis : ∀ c ∈ s.cps.toList, 32 < c ∧ c < 200
  len : s.cps.toList.length ≤ 7
theorem Wd.w7 {w : Wd} (h : w.ok) : Word7 w.str := by
  cases w with
  | op o =>
    have := word_opd (o := o) h
    exact ⟨this.vis, by have := this.len; show o.str.cps.toList.length ≤ 7; omega⟩
  | li i => exact ⟨fun c hc => lit_v i hc, lit_len i⟩
theorem Word7.size {s : Str} (h : Word7 s) : s.length ≤ 7 := by rw [str_size]; exact h.len
theorem Word7.sh {s : Str} (h : Word7 s) : SeqAt.shaped (.str s) = true := sh_str (ok_of fun c hc => (h.vis c hc).2)
theorem canB_num {n : Nat} (h : n < 100000) : canB (numS n).cps.toList = true := by
  have l := num_len h
  rw [str_size] at l
  have al : (numS n).cps.toList.all dgt = true := by
    rw [List.all_eq_true]
    intro b hb
    rw [num_l] at hb
    have := numL_digits n b hb
    unfold dgt
    rw [decide_eq_true this.1, decide_eq_true this.2]
    rfl
  have h1 : 1 ≤ (numS n).cps.toList.length := by
    rw [num_l]
    exact List.length_pos_iff.mpr (numL_ne n)
  have hq : (decide (1 < (numS n).cps.toList.length) && ((numS n).cps.toList.head? == some 48)) = false := by
    rw [num_l]
    by_cases c : n < 10
    · rw [numL_one c]; rfl
    · obtain ⟨d, r, e, hd⟩ := numL_head n (by omega)
      rw [e]
      simp [hd]
  unfold canB
  rw [decide_eq_true h1, decide_eq_true (show (numS n).cps.toList.length ≤ 6 by omega), al, hq]
  rfl
theorem lnumber_num {n : Nat} (h : n < 100000) : F__law_number [.d (.str (numS n))] = .ok (.d (.int (n : Int))) := by
  rw [lnumber_gen (q := (n : Int)) (by have := num_len h; omega) (fun c hc => by rw [num_l] at hc; have := numL_digits n c hc; omega) (fun _ => int_ok h), if_pos (canB_num h)]
theorem lnumber_bad {s : Str} (hl : s.length ≤ 1000000) (ok : ∀ c ∈ s.cps.toList, c < 200) (h : canB s.cps.toList = false) : F__law_number [.d (.str s)] = .ok (.d .none) := by
  rw [lnumber_gen (q := 0) hl ok (fun z => by rw [h] at z; cases z), h]
  rfl
theorem canB_lx {c : Str} {k : Nat} (hc : Letter c k) (hk : k < 48 ∨ 57 < k) (n : Nat) : canB (lx c n).cps.toList = false := by
  rw [lx_l hc]
  unfold canB
  rw [List.all_cons, show dgt k = false by unfold dgt; rcases hk with z | z <;> simp <;> omega, Bool.false_and, Bool.and_false]
  rfl
section
variable {w : Wd} (h : w.ok)
include h
theorem Wd.number : F_number_of [.d (.str w.str)] = .ok (optR w.nu) := by
  match w, h with
  | .op (.c v), h => exact number_num h
  | .op (.x v), h => exact number_lx let_x (by decide) h
  | .op (.s v), h => exact number_lx let_s (by decide) h
  | .li i, h => exact number_bad (by have := (Wd.w7 h).size; omega) (fun c hc => (lit_v i hc).2) (lit_can i)
theorem Wd.lnumber : F__law_number [.d (.str w.str)] = .ok (optR w.nu) := by
  match w, h with
  | .op (.c v), h => exact lnumber_num h
  | .op (.x v), h => exact lnumber_bad (s := lx "x" v) (by have := lx_len let_x h; omega) (fun c hc => ((word_lx let_x (by decide) h).vis c hc).2) (canB_lx let_x (by decide) v)
  | .op (.s v), h => exact lnumber_bad (s := lx "s" v) (by have := lx_len let_s h; omega) (fun c hc => ((word_lx let_s (by decide) h).vis c hc).2) (canB_lx let_s (by decide) v)
  | .li i, h => exact lnumber_bad (by have := (Wd.w7 h).size; omega) (fun c hc => (lit_v i hc).2) (lit_can i)
end
theorem cut1_gen {s : Str} (hl : s.length ≤ 1000000) : gSl (.d (.str s)) none (some 1) = .ok (.d (.str ⟨(s.cps.toList.take 1).toArray⟩)) := by
  show (if s.length ≤ 1000000 then Rs.ok (RV.d (.str (cutS s none (some 1)))) else .no) = _
  rw [if_pos hl]
  congr 3
  apply str_ext
  unfold cutS
  have hs := str_size s
  rw [show (1 : Int) = ((1 : Nat) : Int) from rfl, HT.sIx_nat, HT.sIx_none]
  cases e : s.cps.toList with
  | nil => simp
  | cons d r => rw [e] at hs; simp at hs; rw [show min 1 s.length = 1 by omega]; simp
theorem tail_gen {s : Str} (hl : s.length ≤ 1000000) : gSl (.d (.str s)) (some 1) none = .ok (.d (.str ⟨(s.cps.toList.drop 1).toArray⟩)) := by
  show (if s.length ≤ 1000000 then Rs.ok (RV.d (.str (cutS s (some 1) none))) else .no) = _
  rw [if_pos hl]
  congr 3
  apply str_ext
  unfold cutS
  have hs := str_size s
  rw [show (1 : Int) = ((1 : Nat) : Int) from rfl, HT.sIx_nat, HT.sIx_none]
  cases e : s.cps.toList with
  | nil => simp
  | cons d r => rw [e] at hs; simp at hs; rw [show min 1 s.length = 1 by omega]; simp [hs]
theorem behind_gen {w c h t : Str} {q : Option Nat} (c1 : gSl (.d (.str w)) none (some 1) = .ok (.d (.str h))) (s1 : SeqAt.shaped (.str h) = true) (s2 : SeqAt.shaped (.str c) = true) (c2 : gSl (.d (.str w)) (some 1) none = .ok (.d (.str t)))
    (n1 : PyData.eqv (.str h) (.str c) = true → F_number_of [.d (.str t)] = .ok (optR q)) : F_number_behind [.d (.str c), .d (.str w)] = .ok (if PyData.eqv (.str h) (.str c) = true then optR q else .d .none) := by
  show (B_number_behind [some (.d (.str c)), some (.d (.str w))]).fin = _
  unfold B_number_behind
  cases ev : PyData.eqv (.str h) (.str c) with
  | true =>
    rw [if_pos rfl]
    cases q with
    | none =>
      have n1 : F_number_of [.d (.str t)] = .ok (.d .none) := n1 ev
      show _ = Rs.ok (RV.d .none)
      simp only [VT, oS, List.getElem?_cons_zero, List.getElem?_cons_succ, List.set_cons_succ, List.set_cons_zero, List.length_cons, List.length_nil, Nat.reduceAdd, Nat.reduceLT, Nat.reduceLeDiff, Nat.reduceEqDiff, if_true, if_false, List.map_cons, List.map_nil, Option.map_some, reduceIte, Option.bind_some, Option.bind_none, List.append_nil, List.nil_append, List.cons_append, beq_self_eq_true, c1, s1, s2, ev, c2, n1]
    | some n =>
      have n1 : F_number_of [.d (.str t)] = .ok (.d (.int (n : Int))) := n1 ev
      show _ = Rs.ok (RV.d (.int (n : Int)))
      simp only [VT, oS, List.getElem?_cons_zero, List.getElem?_cons_succ, List.set_cons_succ, List.set_cons_zero, List.length_cons, List.length_nil, Nat.reduceAdd, Nat.reduceLT, Nat.reduceLeDiff, Nat.reduceEqDiff, if_true, if_false, List.map_cons, List.map_nil, Option.map_some, reduceIte, Option.bind_some, Option.bind_none, List.append_nil, List.nil_append, List.cons_append, beq_self_eq_true, c1, s1, s2, ev, c2, n1]
  | false => rw [if_neg (by decide)]; simp only [VT, oS, List.getElem?_cons_zero, List.getElem?_cons_succ, List.set_cons_succ, List.set_cons_zero, List.length_cons, List.length_nil, Nat.reduceAdd, Nat.reduceLT, Nat.reduceLeDiff, Nat.reduceEqDiff, if_true, if_false, List.map_cons, List.map_nil, Option.map_some, reduceIte, Option.bind_some, Option.bind_none, List.append_nil, List.nil_append, List.cons_append, beq_self_eq_true, c1, s1, s2, ev]
theorem names_gen {w c h t : Str} {q : Option Nat} (c1 : gSl (.d (.str w)) none (some 1) = .ok (.d (.str h))) (s1 : SeqAt.shaped (.str h) = true) (s2 : SeqAt.shaped (.str c) = true) (c2 : gSl (.d (.str w)) (some 1) none = .ok (.d (.str t)))
    (n1 : PyData.eqv (.str h) (.str c) = true → F__law_number [.d (.str t)] = .ok (optR q)) : F__law_names [.d (.str w), .d (.str c)] = .ok (if PyData.eqv (.str h) (.str c) = true then optR q else .d .none) := by
  show (B__law_names [some (.d (.str w)), some (.d (.str c))]).fin = _
  unfold B__law_names
  cases ev : PyData.eqv (.str h) (.str c) with
  | true =>
    rw [if_pos rfl]
    cases q with
    | none =>
      have n1 : F__law_number [.d (.str t)] = .ok (.d .none) := n1 ev
      show _ = Rs.ok (RV.d .none)
      simp only [VT, oS, List.getElem?_cons_zero, List.getElem?_cons_succ, List.set_cons_succ, List.set_cons_zero, List.length_cons, List.length_nil, Nat.reduceAdd, Nat.reduceLT, Nat.reduceLeDiff, Nat.reduceEqDiff, if_true, if_false, List.map_cons, List.map_nil, Option.map_some, reduceIte, Option.bind_some, Option.bind_none, List.append_nil, List.nil_append, List.cons_append, beq_self_eq_true, c1, s1, s2, ev, c2, n1]
    | some n =>
      have n1 : F__law_number [.d (.str t)] = .ok (.d (.int (n : Int))) := n1 ev
      show _ = Rs.ok (RV.d (.int (n : Int)))
      simp only [VT, oS, List.getElem?_cons_zero, List.getElem?_cons_succ, List.set_cons_succ, List.set_cons_zero, List.length_cons, List.length_nil, Nat.reduceAdd, Nat.reduceLT, Nat.reduceLeDiff, Nat.reduceEqDiff, if_true, if_false, List.map_cons, List.map_nil, Option.map_some, reduceIte, Option.bind_some, Option.bind_none, List.append_nil, List.nil_append, List.cons_append, beq_self_eq_true, c1, s1, s2, ev, c2, n1]
  | false => rw [if_neg (by decide)]; simp only [VT, oS, List.getElem?_cons_zero, List.getElem?_cons_succ, List.set_cons_succ, List.set_cons_zero, List.length_cons, List.length_nil, Nat.reduceAdd, Nat.reduceLT, Nat.reduceLeDiff, Nat.reduceEqDiff, if_true, if_false, List.map_cons, List.map_nil, Option.map_some, reduceIte, Option.bind_some, Option.bind_none, List.append_nil, List.nil_append, List.cons_append, beq_self_eq_true, c1, s1, s2, ev]
def tlW (s : Str) : Str := ⟨(s.cps.toList.drop 1).toArray⟩
theorem tlW_l (s : Str) : (tlW s).cps.toList = s.cps.toList.drop 1 := by unfold tlW; simp
theorem tlW_lx {c : Str} {k : Nat} (hc : Letter c k) (n : Nat) : tlW (lx c n) = numS n := str_ext (by rw [tlW_l, lx_l hc, num_l]; rfl)
theorem hd_eqv {c s : Str} {k : Nat} (hc : Letter c k) : PyData.eqv (.str ⟨(s.cps.toList.take 1).toArray⟩) (.str c) = (s.cps.toList.head? == some k) := by
  rw [hc.eq, eqv_str]
  cases e : s.cps.toList with
  | nil =>
    have : (⟨((([] : List Nat).take 1)).toArray⟩ : Str) ≠ ⟨#[k]⟩ := fun z => by injection z with z; simp at z
    rw [decide_eq_false this]
    rfl
  | cons d r =>
    by_cases q : d = k
    · subst q; simp
    · have : (⟨(((d :: r).take 1)).toArray⟩ : Str) ≠ ⟨#[k]⟩ := fun z => by injection z with z; simp at z; exact q z
      rw [decide_eq_false this]
      simp [q]
theorem beh_both {w c : Str} {k : Nat} (hc : Letter c k) (hk : k < 200) (h7 : Word7 w) {q : Option Nat} (hq : w.cps.toList.head? = some k → F_number_of [.d (.str (tlW w))] = .ok (optR q) ∧ F__law_number [.d (.str (tlW w))] = .ok (optR q))
    (hq0 : w.cps.toList.head? ≠ some k → q = none) : F_number_behind [.d (.str c), .d (.str w)] = .ok (optR q) ∧ F__law_names [.d (.str w), .d (.str c)] = .ok (optR q) := by
  have hl : w.length ≤ 1000000 := by have := h7.size; omega
  have s1 : SeqAt.shaped (.str ⟨(w.cps.toList.take 1).toArray⟩) = true := sh_str (ok_of fun d hd => (h7.vis d (List.mem_of_mem_take (by simpa using hd))).2)
  have s2 : SeqAt.shaped (.str c) = true := by rw [hc.eq]; exact sh_str (one_ok hk)
  have ev := hd_eqv (s := w) hc
  have e : (if PyData.eqv (.str ⟨(w.cps.toList.take 1).toArray⟩) (.str c) = true then optR q else .d .none) = optR q := by
    rw [ev]
    by_cases z : w.cps.toList.head? = some k
    · rw [z, if_pos (by simp)]
    · rw [if_neg (by simpa using z), hq0 z]
      rfl
  have n0 : PyData.eqv (.str ⟨(w.cps.toList.take 1).toArray⟩) (.str c) = true → w.cps.toList.head? = some k := fun z => by
    rw [ev] at z
    simpa using z
  have b1 := behind_gen (cut1_gen hl) s1 s2 (tail_gen hl) fun z => (hq (n0 z)).1
  have b2 := names_gen (cut1_gen hl) s1 s2 (tail_gen hl) fun z => (hq (n0 z)).2
  rw [e] at b1 b2
  exact ⟨b1, b2⟩
theorem num_hd_ne (v : Nat) {k : Nat} (hk : k < 48 ∨ 57 < k) : (numS v).cps.toList.head? ≠ some k := by
  intro z
  have hm := List.mem_of_mem_head? (by rw [z]; rfl : k ∈ (numS v).cps.toList.head?)
  rw [num_l] at hm
  have := numL_digits v k hm
  omega
theorem Wd.both {w : Wd} (h : w.ok) {c : Str} {k : Nat} (hc : Letter c k) (f : Wd → Option Nat) (hk : (c = "x" ∧ k = 120 ∧ f = Wd.xb) ∨ (c = "s" ∧ k = 115 ∧ f = Wd.sb)) : F_number_behind [.d (.str c), .d (.str w.str)] = .ok (optR (f w)) ∧ F__law_names [.d (.str w.str), .d (.str c)] = .ok (optR (f w)) := by
  have h7 := Wd.w7 h
  match w, h, h7 with
  | .op (.c v), h, h7 => exact beh_both hc (by rcases hk with ⟨_, rfl, _⟩ | ⟨_, rfl, _⟩ <;> decide) h7 (fun z => absurd z (num_hd_ne v (by rcases hk with ⟨_, rfl, _⟩ | ⟨_, rfl, _⟩ <;> decide))) (fun _ => by rcases hk with ⟨_, _, rfl⟩ | ⟨_, _, rfl⟩ <;> rfl)
  | .op (.x v), h, h7 =>
    have hh : (Wd.str (.op (.x v))).cps.toList.head? = some 120 := by show (lx "x" v).cps.toList.head? = _; rw [lx_l let_x]; rfl
    rcases hk with ⟨rfl, rfl, rfl⟩ | ⟨rfl, rfl, rfl⟩
    · exact beh_both hc (by decide) h7 (fun _ => by
        rw [show tlW (Wd.str (.op (.x v))) = numS v from tlW_lx let_x v]
        exact ⟨number_num h, lnumber_num h⟩) (fun z => absurd hh z)
    · exact beh_both hc (by decide) h7 (fun z => by rw [hh] at z; cases z) (fun _ => rfl)
  | .op (.s v), h, h7 =>
    have hh : (Wd.str (.op (.s v))).cps.toList.head? = some 115 := by show (lx "s" v).cps.toList.head? = _; rw [lx_l let_s]; rfl
    rcases hk with ⟨rfl, rfl, rfl⟩ | ⟨rfl, rfl, rfl⟩
    · exact beh_both hc (by decide) h7 (fun z => by rw [hh] at z; cases z) (fun _ => rfl)
    · exact beh_both hc (by decide) h7 (fun _ => by
        rw [show tlW (Wd.str (.op (.s v))) = numS v from tlW_lx let_s v]
        exact ⟨number_num h, lnumber_num h⟩) (fun z => absurd hh z)
  | .li i, h, h7 =>
    have hf : f (.li i) = none := by rcases hk with ⟨_, _, rfl⟩ | ⟨_, _, rfl⟩ <;> rfl
    rw [hf]
    refine beh_both hc (by rcases hk with ⟨_, rfl, _⟩ | ⟨_, rfl, _⟩ <;> decide) h7 (fun z => ?_) (fun _ => rfl)
    rcases lit_tl i with t | ⟨t1, t2⟩
    · have t : canB (tlW (Wd.str (.li i))).cps.toList = false := by rw [tlW_l]; exact t
      have ll : (tlW (Wd.str (.li i))).length ≤ 1000000 := by
        have := h7.len
        rw [str_size, tlW_l, List.length_drop]
        omega
      have vv : ∀ c ∈ (tlW (Wd.str (.li i))).cps.toList, c < 200 := fun c hc => by
        rw [tlW_l] at hc
        exact (h7.vis c (List.mem_of_mem_drop hc)).2
      exact ⟨number_bad ll vv t, lnumber_bad ll vv t⟩
    · rcases hk with ⟨_, rfl, _⟩ | ⟨_, rfl, _⟩
      · exact absurd z t1
      · exact absurd z t2
section
variable {w : Wd} (h : w.ok)
include h
theorem Wd.bx : F_number_behind [.d (.str "x"), .d (.str w.str)] = .ok (optR w.xb) := (Wd.both h let_x Wd.xb (.inl ⟨rfl, rfl, rfl⟩)).1
theorem Wd.bs : F_number_behind [.d (.str "s"), .d (.str w.str)] = .ok (optR w.sb) := (Wd.both h let_s Wd.sb (.inr ⟨rfl, rfl, rfl⟩)).1
theorem Wd.lnx : F__law_names [.d (.str w.str), .d (.str "x")] = .ok (optR w.xb) := (Wd.both h let_x Wd.xb (.inl ⟨rfl, rfl, rfl⟩)).2
theorem Wd.lns : F__law_names [.d (.str w.str), .d (.str "s")] = .ok (optR w.sb) := (Wd.both h let_s Wd.sb (.inr ⟨rfl, rfl, rfl⟩)).2
end
def Wd.frm (w : Wd) : Bool := w.nu.isSome || (w.xb.isSome || w.sb.isSome)
def Wd.kn (m n k : Nat) : Wd → Bool
  | .op (.c v) => decide (v < m)
  | .op (.x i) => decide (i < n)
  | .op (.s i) => decide (i < k)
  | .li _ => false
theorem Wd.looks {w : Wd} (h : w.ok) : F_looks_like_operand [.d (.str w.str)] = .ok (.d (.bool w.frm)) := by
  have p1 := Wd.number h
  have p2 := Wd.bx h
  have p3 := Wd.bs h
  have i1 : ∀ n : Int, isNone (.d (.int n)) = false := fun _ => rfl
  have i0 : isNone (.d .none) = true := rfl
  show (B_looks_like_operand [some (.d (.str w.str))]).fin = _
  unfold B_looks_like_operand Wd.frm
  generalize w.str = W at *
  cases q1 : w.nu with
  | some v =>
    rw [q1] at p1
    have p1 : F_number_of [.d (.str W)] = .ok (.d (.int (v : Int))) := p1
    simp only [VT, oS, List.getElem?_cons_zero, List.getElem?_cons_succ, List.set_cons_succ, List.set_cons_zero, List.length_cons, List.length_nil, Nat.reduceAdd, Nat.reduceLT, Nat.reduceLeDiff, Nat.reduceEqDiff, if_true, if_false, List.map_cons, List.map_nil, Option.map_some, reduceIte, Option.bind_some, Option.bind_none, List.append_nil, List.nil_append, List.cons_append, beq_self_eq_true, p1, i1]
    rfl
  | none =>
    rw [q1] at p1
    have p1 : F_number_of [.d (.str W)] = .ok (.d .none) := p1
    cases q2 : w.xb with
    | some v =>
      rw [q2] at p2
      have p2 : F_number_behind [.d (.str "x"), .d (.str W)] = .ok (.d (.int (v : Int))) := p2
      simp only [VT, oS, List.getElem?_cons_zero, List.getElem?_cons_succ, List.set_cons_succ, List.set_cons_zero, List.length_cons, List.length_nil, Nat.reduceAdd, Nat.reduceLT, Nat.reduceLeDiff, Nat.reduceEqDiff, if_true, if_false, List.map_cons, List.map_nil, Option.map_some, reduceIte, Option.bind_some, Option.bind_none, List.append_nil, List.nil_append, List.cons_append, beq_self_eq_true, p1, p2, i0, i1]
      rfl
    | none =>
      rw [q2] at p2
      have p2 : F_number_behind [.d (.str "x"), .d (.str W)] = .ok (.d .none) := p2
      cases q3 : w.sb with
      | some v =>
        rw [q3] at p3
        have p3 : F_number_behind [.d (.str "s"), .d (.str W)] = .ok (.d (.int (v : Int))) := p3
        simp only [VT, oS, List.getElem?_cons_zero, List.getElem?_cons_succ, List.set_cons_succ, List.set_cons_zero, List.length_cons, List.length_nil, Nat.reduceAdd, Nat.reduceLT, Nat.reduceLeDiff, Nat.reduceEqDiff, if_true, if_false, List.map_cons, List.map_nil, Option.map_some, reduceIte, Option.bind_some, Option.bind_none, List.append_nil, List.nil_append, List.cons_append, beq_self_eq_true, p1, p2, p3, i0, i1]
        rfl
      | none =>
        rw [q3] at p3
        have p3 : F_number_behind [.d (.str "s"), .d (.str W)] = .ok (.d .none) := p3
        simp only [VT, oS, List.getElem?_cons_zero, List.getElem?_cons_succ, List.set_cons_succ, List.set_cons_zero, List.length_cons, List.length_nil, Nat.reduceAdd, Nat.reduceLT, Nat.reduceLeDiff, Nat.reduceEqDiff, if_true, if_false, List.map_cons, List.map_nil, Option.map_some, reduceIte, Option.bind_some, Option.bind_none, List.append_nil, List.nil_append, List.cons_append, beq_self_eq_true, p1, p2, p3, i0]
        rfl
theorem Wd.formed {w : Wd} (h : w.ok) : F__law_formed [.d (.str w.str)] = .ok (.d (.bool w.frm)) := by
  have p1 := Wd.lnumber h
  have p2 := Wd.lnx h
  have p3 := Wd.lns h
  have i1 : ∀ n : Int, isNone (.d (.int n)) = false := fun _ => rfl
  have i0 : isNone (.d .none) = true := rfl
  show (B__law_formed [some (.d (.str w.str))]).fin = _
  unfold B__law_formed Wd.frm
  generalize w.str = W at *
  cases q1 : w.nu with
  | some v =>
    rw [q1] at p1
    have p1 : F__law_number [.d (.str W)] = .ok (.d (.int (v : Int))) := p1
    simp only [VT, oS, List.getElem?_cons_zero, List.getElem?_cons_succ, List.set_cons_succ, List.set_cons_zero, List.length_cons, List.length_nil, Nat.reduceAdd, Nat.reduceLT, Nat.reduceLeDiff, Nat.reduceEqDiff, if_true, if_false, List.map_cons, List.map_nil, Option.map_some, reduceIte, Option.bind_some, Option.bind_none, List.append_nil, List.nil_append, List.cons_append, beq_self_eq_true, p1, i1]
    rfl
  | none =>
    rw [q1] at p1
    have p1 : F__law_number [.d (.str W)] = .ok (.d .none) := p1
    cases q2 : w.xb with
    | some v =>
      rw [q2] at p2
      have p2 : F__law_names [.d (.str W), .d (.str "x")] = .ok (.d (.int (v : Int))) := p2
      simp only [VT, oS, List.getElem?_cons_zero, List.getElem?_cons_succ, List.set_cons_succ, List.set_cons_zero, List.length_cons, List.length_nil, Nat.reduceAdd, Nat.reduceLT, Nat.reduceLeDiff, Nat.reduceEqDiff, if_true, if_false, List.map_cons, List.map_nil, Option.map_some, reduceIte, Option.bind_some, Option.bind_none, List.append_nil, List.nil_append, List.cons_append, beq_self_eq_true, p1, p2, i0, i1]
      rfl
    | none =>
      rw [q2] at p2
      have p2 : F__law_names [.d (.str W), .d (.str "x")] = .ok (.d .none) := p2
      cases q3 : w.sb with
      | some v =>
        rw [q3] at p3
        have p3 : F__law_names [.d (.str W), .d (.str "s")] = .ok (.d (.int (v : Int))) := p3
        simp only [VT, oS, List.getElem?_cons_zero, List.getElem?_cons_succ, List.set_cons_succ, List.set_cons_zero, List.length_cons, List.length_nil, Nat.reduceAdd, Nat.reduceLT, Nat.reduceLeDiff, Nat.reduceEqDiff, if_true, if_false, List.map_cons, List.map_nil, Option.map_some, reduceIte, Option.bind_some, Option.bind_none, List.append_nil, List.nil_append, List.cons_append, beq_self_eq_true, p1, p2, p3, i0, i1]
        rfl
      | none =>
        rw [q3] at p3
        have p3 : F__law_names [.d (.str W), .d (.str "s")] = .ok (.d .none) := p3
        simp only [VT, oS, List.getElem?_cons_zero, List.getElem?_cons_succ, List.set_cons_succ, List.set_cons_zero, List.length_cons, List.length_nil, Nat.reduceAdd, Nat.reduceLT, Nat.reduceLeDiff, Nat.reduceEqDiff, if_true, if_false, List.map_cons, List.map_nil, Option.map_some, reduceIte, Option.bind_some, Option.bind_none, List.append_nil, List.nil_append, List.cons_append, beq_self_eq_true, p1, p2, p3, i0]
        rfl
theorem Wd.known {w : Wd} (h : w.ok) (hf : w.frm = true) (m n k : Nat) : F__law_known [.d (.str w.str), .d (.int (m : Int)), .d (.int (n : Int)), .d (.int (k : Int))] = .ok (.d (.bool (w.kn m n k))) := by
  have p1 := Wd.lnumber h
  have p2 := Wd.lnx h
  have p3 := Wd.lns h
  have i1 : ∀ n : Int, isNone (.d (.int n)) = false := fun _ => rfl
  have i0 : isNone (.d .none) = true := rfl
  show (B__law_known [some (.d (.str w.str)), some (.d (.int (m : Int))), some (.d (.int (n : Int))), some (.d (.int (k : Int)))]).fin = _
  unfold B__law_known
  match w, h, hf with
  | .op (.c v), h, hf =>
    have p1 : F__law_number [.d (.str (Wd.str (.op (.c v))))] = .ok (.d (.int (v : Int))) := p1
    have d1 : decide ((v : Int) < (m : Int)) = Wd.kn m n k (.op (.c v)) := decide_eq_decide.mpr (by omega)
    generalize Wd.str (.op (.c v)) = W at *
    simp only [VT, oS, List.getElem?_cons_zero, List.getElem?_cons_succ, List.set_cons_succ, List.set_cons_zero, List.length_cons, List.length_nil, Nat.reduceAdd, Nat.reduceLT, Nat.reduceLeDiff, Nat.reduceEqDiff, if_true, if_false, List.map_cons, List.map_nil, Option.map_some, reduceIte, Option.bind_some, Option.bind_none, List.append_nil, List.nil_append, List.cons_append, beq_self_eq_true, p1, i1, d1]
  | .op (.x v), h, hf =>
    have p1 : F__law_number [.d (.str (Wd.str (.op (.x v))))] = .ok (.d .none) := p1
    have p2 : F__law_names [.d (.str (Wd.str (.op (.x v)))), .d (.str "x")] = .ok (.d (.int (v : Int))) := p2
    have d1 : decide ((v : Int) < (n : Int)) = Wd.kn m n k (.op (.x v)) := decide_eq_decide.mpr (by omega)
    generalize Wd.str (.op (.x v)) = W at *
    simp only [VT, oS, List.getElem?_cons_zero, List.getElem?_cons_succ, List.set_cons_succ, List.set_cons_zero, List.length_cons, List.length_nil, Nat.reduceAdd, Nat.reduceLT, Nat.reduceLeDiff, Nat.reduceEqDiff, if_true, if_false, List.map_cons, List.map_nil, Option.map_some, reduceIte, Option.bind_some, Option.bind_none, List.append_nil, List.nil_append, List.cons_append, beq_self_eq_true, p1, p2, i0, i1, d1]
  | .op (.s v), h, hf =>
    have p1 : F__law_number [.d (.str (Wd.str (.op (.s v))))] = .ok (.d .none) := p1
    have p2 : F__law_names [.d (.str (Wd.str (.op (.s v)))), .d (.str "x")] = .ok (.d .none) := p2
    have p3 : F__law_names [.d (.str (Wd.str (.op (.s v)))), .d (.str "s")] = .ok (.d (.int (v : Int))) := p3
    have d1 : decide ((v : Int) < (k : Int)) = Wd.kn m n k (.op (.s v)) := decide_eq_decide.mpr (by omega)
    generalize Wd.str (.op (.s v)) = W at *
    simp only [VT, oS, List.getElem?_cons_zero, List.getElem?_cons_succ, List.set_cons_succ, List.set_cons_zero, List.length_cons, List.length_nil, Nat.reduceAdd, Nat.reduceLT, Nat.reduceLeDiff, Nat.reduceEqDiff, if_true, if_false, List.map_cons, List.map_nil, Option.map_some, reduceIte, Option.bind_some, Option.bind_none, List.append_nil, List.nil_append, List.cons_append, beq_self_eq_true, p1, p2, p3, i0, i1, d1]
  | .li i, h, hf => cases hf
theorem is_operand_any {o : Opd} {m n : Nat} {ss : List Stp} {out : PyData} (h : o.small) : F_Reader_is_operand [.bo "Reader" (rdr (m : Int) (n : Int) ss out), .d (.str o.str)] = .ok (.d (.bool (Wd.kn m n ss.length (.op o)))) := by
  have lm := rdr_m (m : Int) (n : Int) ss out
  have lN := rdr_n (m : Int) (n : Int) ss out
  have lS := rdr_s (m : Int) (n : Int) ss out
  have ll : (ss.map Stp.d).length = ss.length := List.length_map _
  show (B_Reader_is_operand [some (.bo "Reader" (rdr (m : Int) (n : Int) ss out)), some (.d (.str o.str))]).fin = _
  unfold B_Reader_is_operand
  have sx := sh_str letx_ok
  have ss' := sh_str lets_ok
  cases o with
  | x i =>
    have hd : gIx (.d (.str (Opd.str (.x i)))) (.d (.int 0)) = .ok (.d (.str "x")) := lx_head let_x h
    have e1 : PyData.eqv (.str "x") (.str "x") = true := by rw [eqv_str]; simp
    have p1 : F_number_behind [.d (.str "x"), .d (.str (Opd.str (.x i)))] = .ok (.d (.int (i : Int))) := behind_lx let_x (by decide) h
    have d1 : decide ((i : Int) < (n : Int)) = Wd.kn m n ss.length (.op (.x i)) := decide_eq_decide.mpr (by omega)
    generalize Opd.str (.x i) = W at *
    generalize rdr (m : Int) (n : Int) ss out = R1 at *
    simp only [VT, oS, List.getElem?_cons_zero, List.getElem?_cons_succ, List.set_cons_succ, List.set_cons_zero, List.length_cons, List.length_nil, Nat.reduceAdd, Nat.reduceLT, Nat.reduceLeDiff, Nat.reduceEqDiff, if_true, if_false, List.map_cons, List.map_nil, Option.map_some, reduceIte, Option.bind_some, Option.bind_none, List.append_nil, List.nil_append, List.cons_append, beq_self_eq_true, e_fldS, e_fld, e_obO, e_obB, e_fvd, e_fvl, e_fvF, e_toD, e_toL, e_retS, e_rmO, e_finM, e_finN, e_prop, e_okR, e_M, e_setM, e_appT, e_arO, e_boO, e_mCall, e_MF, e_plainD, e_plainO, e_putob, e_pbD, e_pbB, e_mkO, e_MP, e_fapp, e_fvO, e_dropM, e_ifM, e_retM, e_retNS, e_m2, e_mB, e_mPT, e_mNot, e_mOr, e_nbo, Out.then_rm, MO.out_ok, MO.out_ex, MO.bind_ok, Rs.mo_ok, Option.map_some, and_self, if_true, true_and, and_true, List.all_cons, List.all_nil, Bool.and_true, putFV_nil, hd, sx, e1, p1, lN, d1]
  | s i =>
    have hd : gIx (.d (.str (Opd.str (.s i)))) (.d (.int 0)) = .ok (.d (.str "s")) := lx_head let_s h
    have e1 : PyData.eqv (.str "s") (.str "x") = false := by rw [eqv_str, decide_eq_false]; decide +kernel
    have e2 : PyData.eqv (.str "s") (.str "s") = true := by rw [eqv_str]; simp
    have p1 : F_number_behind [.d (.str "s"), .d (.str (Opd.str (.s i)))] = .ok (.d (.int (i : Int))) := behind_lx let_s (by decide) h
    have d1 : decide ((i : Int) < (ss.length : Int)) = Wd.kn m n ss.length (.op (.s i)) := decide_eq_decide.mpr (by omega)
    generalize Opd.str (.s i) = W at *
    generalize rdr (m : Int) (n : Int) ss out = R1 at *
    generalize ss.map Stp.d = SD at *
    simp only [VT, oS, List.getElem?_cons_zero, List.getElem?_cons_succ, List.set_cons_succ, List.set_cons_zero, List.length_cons, List.length_nil, Nat.reduceAdd, Nat.reduceLT, Nat.reduceLeDiff, Nat.reduceEqDiff, if_true, if_false, List.map_cons, List.map_nil, Option.map_some, reduceIte, Option.bind_some, Option.bind_none, List.append_nil, List.nil_append, List.cons_append, beq_self_eq_true, e_fldS, e_fld, e_obO, e_obB, e_fvd, e_fvl, e_fvF, e_toD, e_toL, e_retS, e_rmO, e_finM, e_finN, e_prop, e_okR, e_M, e_setM, e_appT, e_arO, e_boO, e_mCall, e_MF, e_plainD, e_plainO, e_putob, e_pbD, e_pbB, e_mkO, e_MP, e_fapp, e_fvO, e_dropM, e_ifM, e_retM, e_retNS, e_m2, e_mB, e_mPT, e_mNot, e_mOr, e_nbo, Out.then_rm, MO.out_ok, MO.out_ex, MO.bind_ok, Rs.mo_ok, Option.map_some, and_self, if_true, true_and, and_true, List.all_cons, List.all_nil, Bool.and_true, putFV_nil, hd, sx, ss', e1, e2, p1, lS, ll, d1]
  | c v =>
    obtain ⟨d, d1', d2', hd⟩ := num_head (n := v) h
    have hd : gIx (.d (.str (Opd.str (.c v)))) (.d (.int 0)) = .ok (.d (.str ⟨#[d]⟩)) := hd
    have sd := sh_str (digit_ok d2')
    have e1 : PyData.eqv (.str ⟨#[d]⟩) (.str "x") = false := by rw [eqv_str]; exact decide_eq_false (by rw [digit_ne let_x d2' (by decide)]; exact id)
    have e2 : PyData.eqv (.str ⟨#[d]⟩) (.str "s") = false := by rw [eqv_str]; exact decide_eq_false (by rw [digit_ne let_s d2' (by decide)]; exact id)
    have p1 : F_number_of [.d (.str (Opd.str (.c v)))] = .ok (.d (.int (v : Int))) := number_num h
    have d1 : decide ((v : Int) < (m : Int)) = Wd.kn m n ss.length (.op (.c v)) := decide_eq_decide.mpr (by omega)
    generalize Opd.str (.c v) = W at *
    generalize rdr (m : Int) (n : Int) ss out = R1 at *
    generalize (⟨#[d]⟩ : Str) = CD at *
    simp only [VT, oS, List.getElem?_cons_zero, List.getElem?_cons_succ, List.set_cons_succ, List.set_cons_zero, List.length_cons, List.length_nil, Nat.reduceAdd, Nat.reduceLT, Nat.reduceLeDiff, Nat.reduceEqDiff, if_true, if_false, List.map_cons, List.map_nil, Option.map_some, reduceIte, Option.bind_some, Option.bind_none, List.append_nil, List.nil_append, List.cons_append, beq_self_eq_true, e_fldS, e_fld, e_obO, e_obB, e_fvd, e_fvl, e_fvF, e_toD, e_toL, e_retS, e_rmO, e_finM, e_finN, e_prop, e_okR, e_M, e_setM, e_appT, e_arO, e_boO, e_mCall, e_MF, e_plainD, e_plainO, e_putob, e_pbD, e_pbB, e_mkO, e_MP, e_fapp, e_fvO, e_dropM, e_ifM, e_retM, e_retNS, e_m2, e_mB, e_mPT, e_mNot, e_mOr, e_nbo, Out.then_rm, MO.out_ok, MO.out_ex, MO.bind_ok, Rs.mo_ok, Option.map_some, and_self, if_true, true_and, and_true, List.all_cons, List.all_nil, Bool.and_true, putFV_nil, hd, sx, ss', sd, e1, e2, p1, lm, d1]
theorem Wd.isop {w : Wd} (h : w.ok) (hf : w.frm = true) {m n : Nat} {ss : List Stp} {out : PyData} : F_Reader_is_operand [.bo "Reader" (rdr (m : Int) (n : Int) ss out), .d (.str w.str)] = .ok (.d (.bool (w.kn m n ss.length))) := by
  cases w with
  | op o => exact is_operand_any h
  | li i => cases hf
def StepT (m n : Nat) (ss : List Stp) (L : List PyData) (out : PyData) : Prop :=
  (∃ msg : Str, PyData.strOk msg = true ∧ F_Reader_take_step [.ob true "Reader" (rdr (m : Int) (n : Int) ss out), .d (.list L)] = .ok "Reader" (rdr (m : Int) (n : Int) ss out) (.str msg) ∧ F__law_step_fault [.d (.list L), .d (.int (m : Int)), .d (.int (n : Int)), .bl (ss.map Stp.d)] = .ok (.d (.str msg))) ∨
  (∃ s : Stp, L = stpL ss.length s ∧ s.l.small ∧ s.r.small ∧ s.l.ok n ss.length m ∧ s.r.ok n ss.length m ∧ ss.length < 8 ∧ NewStp ss s ∧ F__law_step_fault [.d (.list L), .d (.int (m : Int)), .d (.int (n : Int)), .bl (ss.map Stp.d)] = .ok (.d .none))
theorem any_op {w : Str} (h : ([PyData.str "+", .str "-", .str "*"].any fun z => PyData.eqv z (.str w)) = true) : ∃ o : Op, o.str = w := by
  simp only [List.any_cons, List.any_nil, eqv_str, Bool.or_false, Bool.or_eq_true, decide_eq_true_eq] at h
  rcases h with h | h | h
  · exact ⟨.add, h⟩
  · exact ⟨.sub, h⟩
  · exact ⟨.mul, h⟩
theorem frm_op {w : Wd} (h : w.frm = true) : ∃ o, w = .op o := by
  cases w with
  | op o => exact ⟨o, rfl⟩
  | li i => cases h
theorem kn_ok {o : Opd} {m n k : Nat} (h : Wd.kn m n k (.op o) = true) : o.ok n k m := by
  cases o with
  | x i => have h : decide (i < n) = true := h; show i < n; exact of_decide_eq_true h
  | s i => have h : decide (i < k) = true := h; show i < k; exact of_decide_eq_true h
  | c v => have h : decide (v < m) = true := h; show v < m; exact of_decide_eq_true h
theorem step_len {ws : List Wd} (m n : Nat) (ss : List Stp) (out : PyData) (hz : ws.length ≤ 1000) (h5 : ws.length ≠ 5) : StepT m n ss (ws.map fun w => .str w.str) out := by
  unfold StepT
  have gl : gLen [.d (.list (ws.map fun w => PyData.str w.str))] = .ok (.d (.int (ws.length : Int))) := by rw [e_lenL, List.length_map]
  have d5 : decide ((ws.length : Int) = 5) = false := decide_eq_false (by omega)
  generalize (ws.map fun w => PyData.str w.str) = SL at *
  generalize rdr (m : Int) (n : Int) ss out = R1 at *
  generalize ss.map Stp.d = SD at *
  refine .inl ⟨"not understood", by decide +kernel, ?_, ?_⟩
  · show (B_Reader_take_step [some (.ob true "Reader" R1), some (.d (.list SL)), none, none]).finM = _
    unfold B_Reader_take_step
    simp only [VT, oS, List.getElem?_cons_zero, List.getElem?_cons_succ, List.set_cons_succ, List.set_cons_zero, List.length_cons, List.length_nil, Nat.reduceAdd, Nat.reduceLT, Nat.reduceLeDiff, Nat.reduceEqDiff, if_true, if_false, List.map_cons, List.map_nil, Option.map_some, reduceIte, Option.bind_some, Option.bind_none, List.append_nil, List.nil_append, List.cons_append, beq_self_eq_true, e_fldS, e_fld, e_obO, e_obB, e_fvd, e_fvl, e_fvF, e_toD, e_toL, e_retS, e_rmO, e_finM, e_finN, e_prop, e_okR, e_M, e_setM, e_appT, e_arO, e_boO, e_mCall, e_MF, e_plainD, e_plainO, e_putob, e_pbD, e_pbB, e_mkO, e_MP, e_fapp, e_fvO, e_dropM, e_ifM, e_retM, e_retNS, e_m2, e_mB, e_mPT, e_mNot, e_mOr, e_nbo, Out.then_rm, MO.out_ok, MO.out_ex, MO.bind_ok, Rs.mo_ok, Option.map_some, and_self, if_true, true_and, and_true, List.all_cons, List.all_nil, Bool.and_true, putFV_nil, gl, d5]
  · show (B__law_step_fault [some (.d (.list SL)), some (.d (.int (m : Int))), some (.d (.int (n : Int))), some (.bl SD)]).fin = _
    unfold B__law_step_fault
    simp only [VT, oS, List.getElem?_cons_zero, List.getElem?_cons_succ, List.set_cons_succ, List.set_cons_zero, List.length_cons, List.length_nil, Nat.reduceAdd, Nat.reduceLT, Nat.reduceLeDiff, Nat.reduceEqDiff, if_true, if_false, List.map_cons, List.map_nil, Option.map_some, reduceIte, Option.bind_some, Option.bind_none, List.append_nil, List.nil_append, List.cons_append, beq_self_eq_true, gl, d5]
theorem step_five {w0 w1 w2 w3 w4 : Wd} (h0 : w0.ok) (h1 : w1.ok) (h2 : w2.ok) (h3 : w3.ok) (h4 : w4.ok) (m n : Nat) (ss : List Stp) (out : PyData) (h8 : ss.length ≤ 8) : StepT m n ss [.str w0.str, .str w1.str, .str w2.str, .str w3.str, .str w4.str] out := by
  unfold StepT
  have gl : gLen [.d (.list [PyData.str w0.str, .str w1.str, .str w2.str, .str w3.str, .str w4.str])] = .ok (.d (.int 5)) := rfl
  have a0 : atI [PyData.str w0.str, .str w1.str, .str w2.str, .str w3.str, .str w4.str] 0 = some (.str w0.str) := rfl
  have a1 : atI [PyData.str w0.str, .str w1.str, .str w2.str, .str w3.str, .str w4.str] 1 = some (.str w1.str) := rfl
  have a2 : atI [PyData.str w0.str, .str w1.str, .str w2.str, .str w3.str, .str w4.str] 2 = some (.str w2.str) := rfl
  have a3 : atI [PyData.str w0.str, .str w1.str, .str w2.str, .str w3.str, .str w4.str] 3 = some (.str w3.str) := rfl
  have a4 : atI [PyData.str w0.str, .str w1.str, .str w2.str, .str w3.str, .str w4.str] 4 = some (.str w4.str) := rfl
  have seq := sh_str (show PyData.strOk "=" = true by decide +kernel)
  have sh1 := (Wd.w7 h1).sh
  have sh2 := (Wd.w7 h2).sh
  have sh3 := (Wd.w7 h3).sh
  have sh4 := (Wd.w7 h4).sh
  have no : gInB (.d (.str w3.str)) (.d (.tuple [.str "+", .str "-", .str "*"])) = .ok ([PyData.str "+", .str "-", .str "*"].any fun z => PyData.eqv z (.str w3.str)) := by
    show (if SeqAt.shaped (.str w3.str) = true ∧ SeqAt.shaped (.tuple [.str "+", .str "-", .str "*"]) = true then Rs.ok ([PyData.str "+", .str "-", .str "*"].any fun z => PyData.eqv z (.str w3.str)) else .no) = _
    rw [if_pos ⟨sh3, opsD_sh⟩]
  have no2 : gInB (.d (.str w3.str)) (.ol [.str "+", .str "-", .str "*"]) = .ok ([PyData.str "+", .str "-", .str "*"].any fun z => PyData.eqv z (.str w3.str)) := by
    show (if SeqAt.shaped (.str w3.str) = true ∧ SeqAt.shaped (.list [.str "+", .str "-", .str "*"]) = true then Rs.ok ([PyData.str "+", .str "-", .str "*"].any fun z => PyData.eqv z (.str w3.str)) else .no) = _
    rw [if_pos ⟨sh3, by decide +kernel⟩]
  have i1 : ∀ n : Int, isNone (.d (.int n)) = false := fun _ => rfl
  have i0 : isNone (.d .none) = true := rfl
  have nb := Wd.bs h0
  have ln := Wd.lns h0
  have l2 := Wd.looks h2
  have l4 := Wd.looks h4
  have g2 := Wd.formed h2
  have g4 := Wd.formed h4
  have lS := rdr_s (m : Int) (n : Int) ss out
  have lio := rdr_io (m : Int) (n : Int) ss out
  have ll : (ss.map Stp.d).length = ss.length := List.length_map _
  have lz : ss.length ≤ 1000000 := by omega
  have p2 := fun hf => Wd.isop (m := m) (n := n) (ss := ss) (out := out) h2 hf
  have p4 := fun hf => Wd.isop (m := m) (n := n) (ss := ss) (out := out) h4 hf
  have r2 := fun hf => Wd.known h2 hf m n ss.length
  have r4 := fun hf => Wd.known h4 hf m n ss.length
  have q0 : ∀ k, w0.sb = some k → w0.str = lx "s" k := fun k z => by
    match w0, z with
    | .op (.s v), z => cases z; rfl
  have q2 := fun hf => frm_op (w := w2) hf
  have q4 := fun hf => frm_op (w := w4) hf
  have q3 := any_op (w := w3.str)
  have tsh : SeqAt.shaped (.tuple [.str w3.str, .str w2.str, .str w4.str]) = true := (Nice.tup (k := 0) fun d hd => by
    simp at hd
    rcases hd with rfl | rfl | rfl
    · exact Nice.str 0 (ok_of fun c hc => ((Wd.w7 h3).vis c hc).2)
    · exact Nice.str 0 (ok_of fun c hc => ((Wd.w7 h2).vis c hc).2)
    · exact Nice.str 0 (ok_of fun c hc => ((Wd.w7 h4).vis c hc).2)).shaped (by decide)
  have ssh : SeqAt.shaped (.list (ss.map Stp.d)) = true := (stps_nice ss).shaped (by decide)
  generalize hSL : [PyData.str w0.str, .str w1.str, .str w2.str, .str w3.str, .str w4.str] = SL at *
  generalize hR : rdr (m : Int) (n : Int) ss out = R1 at *
  generalize hSD : ss.map Stp.d = SD at *
  generalize hW0 : w0.str = W0 at *
  generalize hW1 : w1.str = W1 at *
  generalize hW2 : w2.str = W2 at *
  generalize hW3 : w3.str = W3 at *
  generalize hW4 : w4.str = W4 at *
  cases e1 : PyData.eqv (.str W1) (.str "=") with
  | false =>
    cases q : w0.sb with
    | none =>
      rw [q] at nb ln
      have ln : F__law_names [.d (.str W0), .d (.str "s")] = .ok (.d .none) := ln
      refine .inl ⟨"not understood", by decide +kernel, ?_, ?_⟩
      · show (B_Reader_take_step [some (.ob true "Reader" R1), some (.d (.list SL)), none, none]).finM = _
        unfold B_Reader_take_step
        simp only [VT, oS, List.getElem?_cons_zero, List.getElem?_cons_succ, List.set_cons_succ, List.set_cons_zero, List.length_cons, List.length_nil, Nat.reduceAdd, Nat.reduceLT, Nat.reduceLeDiff, Nat.reduceEqDiff, if_true, if_false, List.map_cons, List.map_nil, Option.map_some, reduceIte, Option.bind_some, Option.bind_none, List.append_nil, List.nil_append, List.cons_append, beq_self_eq_true, e_fldS, e_fld, e_obO, e_obB, e_fvd, e_fvl, e_fvF, e_toD, e_toL, e_retS, e_rmO, e_finM, e_finN, e_prop, e_okR, e_M, e_setM, e_appT, e_arO, e_boO, e_mCall, e_MF, e_plainD, e_plainO, e_putob, e_pbD, e_pbB, e_mkO, e_MP, e_fapp, e_fvO, e_dropM, e_ifM, e_retM, e_retNS, e_m2, e_mB, e_mPT, e_mNot, e_mOr, e_nbo, Out.then_rm, MO.out_ok, MO.out_ex, MO.bind_ok, Rs.mo_ok, Option.map_some, and_self, if_true, true_and, and_true, List.all_cons, List.all_nil, Bool.and_true, putFV_nil, gl, a0, a1, a2, a3, a4, seq, sh1, e1, no, no2, i0, i1, l2, l4, g2, g4, lS, lio, ll, lz]
      · show (B__law_step_fault [some (.d (.list SL)), some (.d (.int (m : Int))), some (.d (.int (n : Int))), some (.bl SD)]).fin = _
        unfold B__law_step_fault
        simp only [VT, oS, List.getElem?_cons_zero, List.getElem?_cons_succ, List.set_cons_succ, List.set_cons_zero, List.length_cons, List.length_nil, Nat.reduceAdd, Nat.reduceLT, Nat.reduceLeDiff, Nat.reduceEqDiff, if_true, if_false, List.map_cons, List.map_nil, Option.map_some, reduceIte, Option.bind_some, Option.bind_none, List.append_nil, List.nil_append, List.cons_append, beq_self_eq_true, gl, a0, a1, a2, a3, a4, seq, sh1, e1, no, no2, i0, i1, l2, l4, g2, g4, lS, lio, ll, lz, ln]
    | some k0 =>
      rw [q] at nb ln
      have ln : F__law_names [.d (.str W0), .d (.str "s")] = .ok (.d (.int (k0 : Int))) := ln
      refine .inl ⟨"not understood", by decide +kernel, ?_, ?_⟩
      · show (B_Reader_take_step [some (.ob true "Reader" R1), some (.d (.list SL)), none, none]).finM = _
        unfold B_Reader_take_step
        simp only [VT, oS, List.getElem?_cons_zero, List.getElem?_cons_succ, List.set_cons_succ, List.set_cons_zero, List.length_cons, List.length_nil, Nat.reduceAdd, Nat.reduceLT, Nat.reduceLeDiff, Nat.reduceEqDiff, if_true, if_false, List.map_cons, List.map_nil, Option.map_some, reduceIte, Option.bind_some, Option.bind_none, List.append_nil, List.nil_append, List.cons_append, beq_self_eq_true, e_fldS, e_fld, e_obO, e_obB, e_fvd, e_fvl, e_fvF, e_toD, e_toL, e_retS, e_rmO, e_finM, e_finN, e_prop, e_okR, e_M, e_setM, e_appT, e_arO, e_boO, e_mCall, e_MF, e_plainD, e_plainO, e_putob, e_pbD, e_pbB, e_mkO, e_MP, e_fapp, e_fvO, e_dropM, e_ifM, e_retM, e_retNS, e_m2, e_mB, e_mPT, e_mNot, e_mOr, e_nbo, Out.then_rm, MO.out_ok, MO.out_ex, MO.bind_ok, Rs.mo_ok, Option.map_some, and_self, if_true, true_and, and_true, List.all_cons, List.all_nil, Bool.and_true, putFV_nil, gl, a0, a1, a2, a3, a4, seq, sh1, e1, no, no2, i0, i1, l2, l4, g2, g4, lS, lio, ll, lz]
      · show (B__law_step_fault [some (.d (.list SL)), some (.d (.int (m : Int))), some (.d (.int (n : Int))), some (.bl SD)]).fin = _
        unfold B__law_step_fault
        simp only [VT, oS, List.getElem?_cons_zero, List.getElem?_cons_succ, List.set_cons_succ, List.set_cons_zero, List.length_cons, List.length_nil, Nat.reduceAdd, Nat.reduceLT, Nat.reduceLeDiff, Nat.reduceEqDiff, if_true, if_false, List.map_cons, List.map_nil, Option.map_some, reduceIte, Option.bind_some, Option.bind_none, List.append_nil, List.nil_append, List.cons_append, beq_self_eq_true, gl, a0, a1, a2, a3, a4, seq, sh1, e1, no, no2, i0, i1, l2, l4, g2, g4, lS, lio, ll, lz, ln]
  | true =>
    generalize hb : ([PyData.str "+", .str "-", .str "*"].any fun z => PyData.eqv z (.str W3)) = b3 at *
    cases q : w0.sb with
    | none =>
      rw [q] at nb ln
      have ln : F__law_names [.d (.str W0), .d (.str "s")] = .ok (.d .none) := ln
      have nb : F_number_behind [.d (.str "s"), .d (.str W0)] = .ok (.d .none) := nb
      cases b3 with
      | false =>
        refine .inl ⟨"not understood", by decide +kernel, ?_, ?_⟩
        · show (B_Reader_take_step [some (.ob true "Reader" R1), some (.d (.list SL)), none, none]).finM = _
          unfold B_Reader_take_step
          simp only [VT, oS, List.getElem?_cons_zero, List.getElem?_cons_succ, List.set_cons_succ, List.set_cons_zero, List.length_cons, List.length_nil, Nat.reduceAdd, Nat.reduceLT, Nat.reduceLeDiff, Nat.reduceEqDiff, if_true, if_false, List.map_cons, List.map_nil, Option.map_some, reduceIte, Option.bind_some, Option.bind_none, List.append_nil, List.nil_append, List.cons_append, beq_self_eq_true, e_fldS, e_fld, e_obO, e_obB, e_fvd, e_fvl, e_fvF, e_toD, e_toL, e_retS, e_rmO, e_finM, e_finN, e_prop, e_okR, e_M, e_setM, e_appT, e_arO, e_boO, e_mCall, e_MF, e_plainD, e_plainO, e_putob, e_pbD, e_pbB, e_mkO, e_MP, e_fapp, e_fvO, e_dropM, e_ifM, e_retM, e_retNS, e_m2, e_mB, e_mPT, e_mNot, e_mOr, e_nbo, Out.then_rm, MO.out_ok, MO.out_ex, MO.bind_ok, Rs.mo_ok, Option.map_some, and_self, if_true, true_and, and_true, List.all_cons, List.all_nil, Bool.and_true, putFV_nil, gl, a0, a1, a2, a3, a4, seq, sh1, e1, no, no2, i0, i1, l2, l4, g2, g4, lS, lio, ll, lz, ln, nb]
        · show (B__law_step_fault [some (.d (.list SL)), some (.d (.int (m : Int))), some (.d (.int (n : Int))), some (.bl SD)]).fin = _
          unfold B__law_step_fault
          simp only [VT, oS, List.getElem?_cons_zero, List.getElem?_cons_succ, List.set_cons_succ, List.set_cons_zero, List.length_cons, List.length_nil, Nat.reduceAdd, Nat.reduceLT, Nat.reduceLeDiff, Nat.reduceEqDiff, if_true, if_false, List.map_cons, List.map_nil, Option.map_some, reduceIte, Option.bind_some, Option.bind_none, List.append_nil, List.nil_append, List.cons_append, beq_self_eq_true, gl, a0, a1, a2, a3, a4, seq, sh1, e1, no, no2, i0, i1, l2, l4, g2, g4, lS, lio, ll, lz, ln, nb]
      | true =>
        refine .inl ⟨"not understood", by decide +kernel, ?_, ?_⟩
        · show (B_Reader_take_step [some (.ob true "Reader" R1), some (.d (.list SL)), none, none]).finM = _
          unfold B_Reader_take_step
          simp only [VT, oS, List.getElem?_cons_zero, List.getElem?_cons_succ, List.set_cons_succ, List.set_cons_zero, List.length_cons, List.length_nil, Nat.reduceAdd, Nat.reduceLT, Nat.reduceLeDiff, Nat.reduceEqDiff, if_true, if_false, List.map_cons, List.map_nil, Option.map_some, reduceIte, Option.bind_some, Option.bind_none, List.append_nil, List.nil_append, List.cons_append, beq_self_eq_true, e_fldS, e_fld, e_obO, e_obB, e_fvd, e_fvl, e_fvF, e_toD, e_toL, e_retS, e_rmO, e_finM, e_finN, e_prop, e_okR, e_M, e_setM, e_appT, e_arO, e_boO, e_mCall, e_MF, e_plainD, e_plainO, e_putob, e_pbD, e_pbB, e_mkO, e_MP, e_fapp, e_fvO, e_dropM, e_ifM, e_retM, e_retNS, e_m2, e_mB, e_mPT, e_mNot, e_mOr, e_nbo, Out.then_rm, MO.out_ok, MO.out_ex, MO.bind_ok, Rs.mo_ok, Option.map_some, and_self, if_true, true_and, and_true, List.all_cons, List.all_nil, Bool.and_true, putFV_nil, gl, a0, a1, a2, a3, a4, seq, sh1, e1, no, no2, i0, i1, l2, l4, g2, g4, lS, lio, ll, lz, ln, nb]
        · show (B__law_step_fault [some (.d (.list SL)), some (.d (.int (m : Int))), some (.d (.int (n : Int))), some (.bl SD)]).fin = _
          unfold B__law_step_fault
          simp only [VT, oS, List.getElem?_cons_zero, List.getElem?_cons_succ, List.set_cons_succ, List.set_cons_zero, List.length_cons, List.length_nil, Nat.reduceAdd, Nat.reduceLT, Nat.reduceLeDiff, Nat.reduceEqDiff, if_true, if_false, List.map_cons, List.map_nil, Option.map_some, reduceIte, Option.bind_some, Option.bind_none, List.append_nil, List.nil_append, List.cons_append, beq_self_eq_true, gl, a0, a1, a2, a3, a4, seq, sh1, e1, no, no2, i0, i1, l2, l4, g2, g4, lS, lio, ll, lz, ln, nb]
    | some k0 =>
      rw [q] at nb ln
      have ln : F__law_names [.d (.str W0), .d (.str "s")] = .ok (.d (.int (k0 : Int))) := ln
      have nb : F_number_behind [.d (.str "s"), .d (.str W0)] = .ok (.d (.int (k0 : Int))) := nb
      cases b3 with
      | false =>
        refine .inl ⟨"not understood", by decide +kernel, ?_, ?_⟩
        · show (B_Reader_take_step [some (.ob true "Reader" R1), some (.d (.list SL)), none, none]).finM = _
          unfold B_Reader_take_step
          simp only [VT, oS, List.getElem?_cons_zero, List.getElem?_cons_succ, List.set_cons_succ, List.set_cons_zero, List.length_cons, List.length_nil, Nat.reduceAdd, Nat.reduceLT, Nat.reduceLeDiff, Nat.reduceEqDiff, if_true, if_false, List.map_cons, List.map_nil, Option.map_some, reduceIte, Option.bind_some, Option.bind_none, List.append_nil, List.nil_append, List.cons_append, beq_self_eq_true, e_fldS, e_fld, e_obO, e_obB, e_fvd, e_fvl, e_fvF, e_toD, e_toL, e_retS, e_rmO, e_finM, e_finN, e_prop, e_okR, e_M, e_setM, e_appT, e_arO, e_boO, e_mCall, e_MF, e_plainD, e_plainO, e_putob, e_pbD, e_pbB, e_mkO, e_MP, e_fapp, e_fvO, e_dropM, e_ifM, e_retM, e_retNS, e_m2, e_mB, e_mPT, e_mNot, e_mOr, e_nbo, Out.then_rm, MO.out_ok, MO.out_ex, MO.bind_ok, Rs.mo_ok, Option.map_some, and_self, if_true, true_and, and_true, List.all_cons, List.all_nil, Bool.and_true, putFV_nil, gl, a0, a1, a2, a3, a4, seq, sh1, e1, no, no2, i0, i1, l2, l4, g2, g4, lS, lio, ll, lz, ln, nb]
        · show (B__law_step_fault [some (.d (.list SL)), some (.d (.int (m : Int))), some (.d (.int (n : Int))), some (.bl SD)]).fin = _
          unfold B__law_step_fault
          simp only [VT, oS, List.getElem?_cons_zero, List.getElem?_cons_succ, List.set_cons_succ, List.set_cons_zero, List.length_cons, List.length_nil, Nat.reduceAdd, Nat.reduceLT, Nat.reduceLeDiff, Nat.reduceEqDiff, if_true, if_false, List.map_cons, List.map_nil, Option.map_some, reduceIte, Option.bind_some, Option.bind_none, List.append_nil, List.nil_append, List.cons_append, beq_self_eq_true, gl, a0, a1, a2, a3, a4, seq, sh1, e1, no, no2, i0, i1, l2, l4, g2, g4, lS, lio, ll, lz, ln, nb]
      | true =>
        cases f2 : w2.frm with
        | false =>
          rw [f2] at l2 g2
          refine .inl ⟨"not understood", by decide +kernel, ?_, ?_⟩
          · show (B_Reader_take_step [some (.ob true "Reader" R1), some (.d (.list SL)), none, none]).finM = _
            unfold B_Reader_take_step
            simp only [VT, oS, List.getElem?_cons_zero, List.getElem?_cons_succ, List.set_cons_succ, List.set_cons_zero, List.length_cons, List.length_nil, Nat.reduceAdd, Nat.reduceLT, Nat.reduceLeDiff, Nat.reduceEqDiff, if_true, if_false, List.map_cons, List.map_nil, Option.map_some, reduceIte, Option.bind_some, Option.bind_none, List.append_nil, List.nil_append, List.cons_append, beq_self_eq_true, e_fldS, e_fld, e_obO, e_obB, e_fvd, e_fvl, e_fvF, e_toD, e_toL, e_retS, e_rmO, e_finM, e_finN, e_prop, e_okR, e_M, e_setM, e_appT, e_arO, e_boO, e_mCall, e_MF, e_plainD, e_plainO, e_putob, e_pbD, e_pbB, e_mkO, e_MP, e_fapp, e_fvO, e_dropM, e_ifM, e_retM, e_retNS, e_m2, e_mB, e_mPT, e_mNot, e_mOr, e_nbo, Out.then_rm, MO.out_ok, MO.out_ex, MO.bind_ok, Rs.mo_ok, Option.map_some, and_self, if_true, true_and, and_true, List.all_cons, List.all_nil, Bool.and_true, putFV_nil, gl, a0, a1, a2, a3, a4, seq, sh1, e1, no, no2, i0, i1, l2, l4, g2, g4, lS, lio, ll, lz, ln, nb]
          · show (B__law_step_fault [some (.d (.list SL)), some (.d (.int (m : Int))), some (.d (.int (n : Int))), some (.bl SD)]).fin = _
            unfold B__law_step_fault
            simp only [VT, oS, List.getElem?_cons_zero, List.getElem?_cons_succ, List.set_cons_succ, List.set_cons_zero, List.length_cons, List.length_nil, Nat.reduceAdd, Nat.reduceLT, Nat.reduceLeDiff, Nat.reduceEqDiff, if_true, if_false, List.map_cons, List.map_nil, Option.map_some, reduceIte, Option.bind_some, Option.bind_none, List.append_nil, List.nil_append, List.cons_append, beq_self_eq_true, gl, a0, a1, a2, a3, a4, seq, sh1, e1, no, no2, i0, i1, l2, l4, g2, g4, lS, lio, ll, lz, ln, nb]
        | true =>
          cases f4 : w4.frm with
          | false =>
            rw [f2] at l2 g2
            rw [f4] at l4 g4
            refine .inl ⟨"not understood", by decide +kernel, ?_, ?_⟩
            · show (B_Reader_take_step [some (.ob true "Reader" R1), some (.d (.list SL)), none, none]).finM = _
              unfold B_Reader_take_step
              simp only [VT, oS, List.getElem?_cons_zero, List.getElem?_cons_succ, List.set_cons_succ, List.set_cons_zero, List.length_cons, List.length_nil, Nat.reduceAdd, Nat.reduceLT, Nat.reduceLeDiff, Nat.reduceEqDiff, if_true, if_false, List.map_cons, List.map_nil, Option.map_some, reduceIte, Option.bind_some, Option.bind_none, List.append_nil, List.nil_append, List.cons_append, beq_self_eq_true, e_fldS, e_fld, e_obO, e_obB, e_fvd, e_fvl, e_fvF, e_toD, e_toL, e_retS, e_rmO, e_finM, e_finN, e_prop, e_okR, e_M, e_setM, e_appT, e_arO, e_boO, e_mCall, e_MF, e_plainD, e_plainO, e_putob, e_pbD, e_pbB, e_mkO, e_MP, e_fapp, e_fvO, e_dropM, e_ifM, e_retM, e_retNS, e_m2, e_mB, e_mPT, e_mNot, e_mOr, e_nbo, Out.then_rm, MO.out_ok, MO.out_ex, MO.bind_ok, Rs.mo_ok, Option.map_some, and_self, if_true, true_and, and_true, List.all_cons, List.all_nil, Bool.and_true, putFV_nil, gl, a0, a1, a2, a3, a4, seq, sh1, e1, no, no2, i0, i1, l2, l4, g2, g4, lS, lio, ll, lz, ln, nb]
            · show (B__law_step_fault [some (.d (.list SL)), some (.d (.int (m : Int))), some (.d (.int (n : Int))), some (.bl SD)]).fin = _
              unfold B__law_step_fault
              simp only [VT, oS, List.getElem?_cons_zero, List.getElem?_cons_succ, List.set_cons_succ, List.set_cons_zero, List.length_cons, List.length_nil, Nat.reduceAdd, Nat.reduceLT, Nat.reduceLeDiff, Nat.reduceEqDiff, if_true, if_false, List.map_cons, List.map_nil, Option.map_some, reduceIte, Option.bind_some, Option.bind_none, List.append_nil, List.nil_append, List.cons_append, beq_self_eq_true, gl, a0, a1, a2, a3, a4, seq, sh1, e1, no, no2, i0, i1, l2, l4, g2, g4, lS, lio, ll, lz, ln, nb]
          | true =>
            have p2 := p2 f2
            have p4 := p4 f4
            have r2 := r2 f2
            have r4 := r4 f4
            have q2 := q2 f2
            have q4 := q4 f4
            rw [f2] at l2 g2
            rw [f4] at l4 g4
            by_cases c8 : ss.length < 8
            · have d8 : decide ((ss.length : Int) ≥ 8) = false := decide_eq_false (by omega)
              by_cases ck : k0 = ss.length
              · have dk : decide ((k0 : Int) = (ss.length : Int)) = true := decide_eq_true (by omega)
                cases n2 : w2.kn m n ss.length with
                | false =>
                  rw [n2] at p2 r2
                  refine .inl ⟨"unknown operand", by decide +kernel, ?_, ?_⟩
                  · show (B_Reader_take_step [some (.ob true "Reader" R1), some (.d (.list SL)), none, none]).finM = _
                    unfold B_Reader_take_step
                    simp only [VT, oS, List.getElem?_cons_zero, List.getElem?_cons_succ, List.set_cons_succ, List.set_cons_zero, List.length_cons, List.length_nil, Nat.reduceAdd, Nat.reduceLT, Nat.reduceLeDiff, Nat.reduceEqDiff, if_true, if_false, List.map_cons, List.map_nil, Option.map_some, reduceIte, Option.bind_some, Option.bind_none, List.append_nil, List.nil_append, List.cons_append, beq_self_eq_true, e_fldS, e_fld, e_obO, e_obB, e_fvd, e_fvl, e_fvF, e_toD, e_toL, e_retS, e_rmO, e_finM, e_finN, e_prop, e_okR, e_M, e_setM, e_appT, e_arO, e_boO, e_mCall, e_MF, e_plainD, e_plainO, e_putob, e_pbD, e_pbB, e_mkO, e_MP, e_fapp, e_fvO, e_dropM, e_ifM, e_retM, e_retNS, e_m2, e_mB, e_mPT, e_mNot, e_mOr, e_nbo, Out.then_rm, MO.out_ok, MO.out_ex, MO.bind_ok, Rs.mo_ok, Option.map_some, and_self, if_true, true_and, and_true, List.all_cons, List.all_nil, Bool.and_true, putFV_nil, gl, a0, a1, a2, a3, a4, seq, sh1, e1, no, no2, i0, i1, l2, l4, g2, g4, lS, lio, ll, lz, ln, nb, d8, dk, p2, p4, r2, r4]
                  · show (B__law_step_fault [some (.d (.list SL)), some (.d (.int (m : Int))), some (.d (.int (n : Int))), some (.bl SD)]).fin = _
                    unfold B__law_step_fault
                    simp only [VT, oS, List.getElem?_cons_zero, List.getElem?_cons_succ, List.set_cons_succ, List.set_cons_zero, List.length_cons, List.length_nil, Nat.reduceAdd, Nat.reduceLT, Nat.reduceLeDiff, Nat.reduceEqDiff, if_true, if_false, List.map_cons, List.map_nil, Option.map_some, reduceIte, Option.bind_some, Option.bind_none, List.append_nil, List.nil_append, List.cons_append, beq_self_eq_true, gl, a0, a1, a2, a3, a4, seq, sh1, e1, no, no2, i0, i1, l2, l4, g2, g4, lS, lio, ll, lz, ln, nb, d8, dk, p2, p4, r2, r4]
                | true =>
                  rw [n2] at p2 r2
                  cases n4 : w4.kn m n ss.length with
                  | false =>
                    rw [n4] at p4 r4
                    refine .inl ⟨"unknown operand", by decide +kernel, ?_, ?_⟩
                    · show (B_Reader_take_step [some (.ob true "Reader" R1), some (.d (.list SL)), none, none]).finM = _
                      unfold B_Reader_take_step
                      simp only [VT, oS, List.getElem?_cons_zero, List.getElem?_cons_succ, List.set_cons_succ, List.set_cons_zero, List.length_cons, List.length_nil, Nat.reduceAdd, Nat.reduceLT, Nat.reduceLeDiff, Nat.reduceEqDiff, if_true, if_false, List.map_cons, List.map_nil, Option.map_some, reduceIte, Option.bind_some, Option.bind_none, List.append_nil, List.nil_append, List.cons_append, beq_self_eq_true, e_fldS, e_fld, e_obO, e_obB, e_fvd, e_fvl, e_fvF, e_toD, e_toL, e_retS, e_rmO, e_finM, e_finN, e_prop, e_okR, e_M, e_setM, e_appT, e_arO, e_boO, e_mCall, e_MF, e_plainD, e_plainO, e_putob, e_pbD, e_pbB, e_mkO, e_MP, e_fapp, e_fvO, e_dropM, e_ifM, e_retM, e_retNS, e_m2, e_mB, e_mPT, e_mNot, e_mOr, e_nbo, Out.then_rm, MO.out_ok, MO.out_ex, MO.bind_ok, Rs.mo_ok, Option.map_some, and_self, if_true, true_and, and_true, List.all_cons, List.all_nil, Bool.and_true, putFV_nil, gl, a0, a1, a2, a3, a4, seq, sh1, e1, no, no2, i0, i1, l2, l4, g2, g4, lS, lio, ll, lz, ln, nb, d8, dk, p2, p4, r2, r4]
                    · show (B__law_step_fault [some (.d (.list SL)), some (.d (.int (m : Int))), some (.d (.int (n : Int))), some (.bl SD)]).fin = _
                      unfold B__law_step_fault
                      simp only [VT, oS, List.getElem?_cons_zero, List.getElem?_cons_succ, List.set_cons_succ, List.set_cons_zero, List.length_cons, List.length_nil, Nat.reduceAdd, Nat.reduceLT, Nat.reduceLeDiff, Nat.reduceEqDiff, if_true, if_false, List.map_cons, List.map_nil, Option.map_some, reduceIte, Option.bind_some, Option.bind_none, List.append_nil, List.nil_append, List.cons_append, beq_self_eq_true, gl, a0, a1, a2, a3, a4, seq, sh1, e1, no, no2, i0, i1, l2, l4, g2, g4, lS, lio, ll, lz, ln, nb, d8, dk, p2, p4, r2, r4]
                  | true =>
                    rw [n4] at p4 r4
                    cases an : (SD.any fun z => PyData.eqv z (.tuple [.str W3, .str W2, .str W4])) with
                    | true =>
                      refine .inl ⟨"same step", by decide +kernel, ?_, ?_⟩
                      · show (B_Reader_take_step [some (.ob true "Reader" R1), some (.d (.list SL)), none, none]).finM = _
                        unfold B_Reader_take_step
                        simp only [VT, oS, List.getElem?_cons_zero, List.getElem?_cons_succ, List.set_cons_succ, List.set_cons_zero, List.length_cons, List.length_nil, Nat.reduceAdd, Nat.reduceLT, Nat.reduceLeDiff, Nat.reduceEqDiff, if_true, if_false, List.map_cons, List.map_nil, Option.map_some, reduceIte, Option.bind_some, Option.bind_none, List.append_nil, List.nil_append, List.cons_append, beq_self_eq_true, e_fldS, e_fld, e_obO, e_obB, e_fvd, e_fvl, e_fvF, e_toD, e_toL, e_retS, e_rmO, e_finM, e_finN, e_prop, e_okR, e_M, e_setM, e_appT, e_arO, e_boO, e_mCall, e_MF, e_plainD, e_plainO, e_putob, e_pbD, e_pbB, e_mkO, e_MP, e_fapp, e_fvO, e_dropM, e_ifM, e_retM, e_retNS, e_m2, e_mB, e_mPT, e_mNot, e_mOr, e_nbo, Out.then_rm, MO.out_ok, MO.out_ex, MO.bind_ok, Rs.mo_ok, Option.map_some, and_self, if_true, true_and, and_true, List.all_cons, List.all_nil, Bool.and_true, putFV_nil, gl, a0, a1, a2, a3, a4, seq, sh1, e1, no, no2, i0, i1, l2, l4, g2, g4, lS, lio, ll, lz, ln, nb, d8, dk, p2, p4, r2, r4, an, tsh, ssh]
                      · show (B__law_step_fault [some (.d (.list SL)), some (.d (.int (m : Int))), some (.d (.int (n : Int))), some (.bl SD)]).fin = _
                        unfold B__law_step_fault
                        simp only [VT, oS, List.getElem?_cons_zero, List.getElem?_cons_succ, List.set_cons_succ, List.set_cons_zero, List.length_cons, List.length_nil, Nat.reduceAdd, Nat.reduceLT, Nat.reduceLeDiff, Nat.reduceEqDiff, if_true, if_false, List.map_cons, List.map_nil, Option.map_some, reduceIte, Option.bind_some, Option.bind_none, List.append_nil, List.nil_append, List.cons_append, beq_self_eq_true, gl, a0, a1, a2, a3, a4, seq, sh1, e1, no, no2, i0, i1, l2, l4, g2, g4, lS, lio, ll, lz, ln, nb, d8, dk, p2, p4, r2, r4, an, tsh, ssh]
                    | false =>
                      have fin : F__law_step_fault [.d (.list SL), .d (.int (m : Int)), .d (.int (n : Int)), .bl SD] = .ok (.d .none) := by
                        show (B__law_step_fault [some (.d (.list SL)), some (.d (.int (m : Int))), some (.d (.int (n : Int))), some (.bl SD)]).fin = _
                        unfold B__law_step_fault
                        simp only [VT, oS, List.getElem?_cons_zero, List.getElem?_cons_succ, List.set_cons_succ, List.set_cons_zero, List.length_cons, List.length_nil, Nat.reduceAdd, Nat.reduceLT, Nat.reduceLeDiff, Nat.reduceEqDiff, if_true, if_false, List.map_cons, List.map_nil, Option.map_some, reduceIte, Option.bind_some, Option.bind_none, List.append_nil, List.nil_append, List.cons_append, beq_self_eq_true, gl, a0, a1, a2, a3, a4, seq, sh1, e1, no, no2, i0, i1, l2, l4, g2, g4, lS, lio, ll, lz, ln, nb, d8, dk, p2, p4, r2, r4, an, tsh, ssh]
                      right
                      obtain ⟨op, hop⟩ := q3 rfl
                      obtain ⟨o2, rfl⟩ := q2
                      obtain ⟨o4, rfl⟩ := q4
                      have e1' : W1 = "=" := by
                        rw [eqv_str] at e1
                        exact of_decide_eq_true e1
                      refine ⟨⟨op, o2, o4⟩, ?_, h2, h4, kn_ok n2, kn_ok n4, c8, ?_, fin⟩
                      · rw [← hSL, q0 k0 q, ck, e1', ← hop, ← hW2, ← hW4]
                        rfl
                      · unfold NewStp
                        rw [hSD]
                        show (SD.any fun z => PyData.eqv z (.tuple [.str op.str, .str (Wd.str (.op o2)), .str (Wd.str (.op o4))])) = false
                        rw [hop, hW2, hW4]
                        exact an
              · have dk : decide ((k0 : Int) = (ss.length : Int)) = false := decide_eq_false (by omega)
                refine .inl ⟨"wrong name", by decide +kernel, ?_, ?_⟩
                · show (B_Reader_take_step [some (.ob true "Reader" R1), some (.d (.list SL)), none, none]).finM = _
                  unfold B_Reader_take_step
                  simp only [VT, oS, List.getElem?_cons_zero, List.getElem?_cons_succ, List.set_cons_succ, List.set_cons_zero, List.length_cons, List.length_nil, Nat.reduceAdd, Nat.reduceLT, Nat.reduceLeDiff, Nat.reduceEqDiff, if_true, if_false, List.map_cons, List.map_nil, Option.map_some, reduceIte, Option.bind_some, Option.bind_none, List.append_nil, List.nil_append, List.cons_append, beq_self_eq_true, e_fldS, e_fld, e_obO, e_obB, e_fvd, e_fvl, e_fvF, e_toD, e_toL, e_retS, e_rmO, e_finM, e_finN, e_prop, e_okR, e_M, e_setM, e_appT, e_arO, e_boO, e_mCall, e_MF, e_plainD, e_plainO, e_putob, e_pbD, e_pbB, e_mkO, e_MP, e_fapp, e_fvO, e_dropM, e_ifM, e_retM, e_retNS, e_m2, e_mB, e_mPT, e_mNot, e_mOr, e_nbo, Out.then_rm, MO.out_ok, MO.out_ex, MO.bind_ok, Rs.mo_ok, Option.map_some, and_self, if_true, true_and, and_true, List.all_cons, List.all_nil, Bool.and_true, putFV_nil, gl, a0, a1, a2, a3, a4, seq, sh1, e1, no, no2, i0, i1, l2, l4, g2, g4, lS, lio, ll, lz, ln, nb, d8, dk]
                · show (B__law_step_fault [some (.d (.list SL)), some (.d (.int (m : Int))), some (.d (.int (n : Int))), some (.bl SD)]).fin = _
                  unfold B__law_step_fault
                  simp only [VT, oS, List.getElem?_cons_zero, List.getElem?_cons_succ, List.set_cons_succ, List.set_cons_zero, List.length_cons, List.length_nil, Nat.reduceAdd, Nat.reduceLT, Nat.reduceLeDiff, Nat.reduceEqDiff, if_true, if_false, List.map_cons, List.map_nil, Option.map_some, reduceIte, Option.bind_some, Option.bind_none, List.append_nil, List.nil_append, List.cons_append, beq_self_eq_true, gl, a0, a1, a2, a3, a4, seq, sh1, e1, no, no2, i0, i1, l2, l4, g2, g4, lS, lio, ll, lz, ln, nb, d8, dk]
            · have d8 : decide ((ss.length : Int) ≥ 8) = true := decide_eq_true (by omega)
              refine .inl ⟨"too many steps", by decide +kernel, ?_, ?_⟩
              · show (B_Reader_take_step [some (.ob true "Reader" R1), some (.d (.list SL)), none, none]).finM = _
                unfold B_Reader_take_step
                simp only [VT, oS, List.getElem?_cons_zero, List.getElem?_cons_succ, List.set_cons_succ, List.set_cons_zero, List.length_cons, List.length_nil, Nat.reduceAdd, Nat.reduceLT, Nat.reduceLeDiff, Nat.reduceEqDiff, if_true, if_false, List.map_cons, List.map_nil, Option.map_some, reduceIte, Option.bind_some, Option.bind_none, List.append_nil, List.nil_append, List.cons_append, beq_self_eq_true, e_fldS, e_fld, e_obO, e_obB, e_fvd, e_fvl, e_fvF, e_toD, e_toL, e_retS, e_rmO, e_finM, e_finN, e_prop, e_okR, e_M, e_setM, e_appT, e_arO, e_boO, e_mCall, e_MF, e_plainD, e_plainO, e_putob, e_pbD, e_pbB, e_mkO, e_MP, e_fapp, e_fvO, e_dropM, e_ifM, e_retM, e_retNS, e_m2, e_mB, e_mPT, e_mNot, e_mOr, e_nbo, Out.then_rm, MO.out_ok, MO.out_ex, MO.bind_ok, Rs.mo_ok, Option.map_some, and_self, if_true, true_and, and_true, List.all_cons, List.all_nil, Bool.and_true, putFV_nil, gl, a0, a1, a2, a3, a4, seq, sh1, e1, no, no2, i0, i1, l2, l4, g2, g4, lS, lio, ll, lz, ln, nb, d8]
              · show (B__law_step_fault [some (.d (.list SL)), some (.d (.int (m : Int))), some (.d (.int (n : Int))), some (.bl SD)]).fin = _
                unfold B__law_step_fault
                simp only [VT, oS, List.getElem?_cons_zero, List.getElem?_cons_succ, List.set_cons_succ, List.set_cons_zero, List.length_cons, List.length_nil, Nat.reduceAdd, Nat.reduceLT, Nat.reduceLeDiff, Nat.reduceEqDiff, if_true, if_false, List.map_cons, List.map_nil, Option.map_some, reduceIte, Option.bind_some, Option.bind_none, List.append_nil, List.nil_append, List.cons_append, beq_self_eq_true, gl, a0, a1, a2, a3, a4, seq, sh1, e1, no, no2, i0, i1, l2, l4, g2, g4, lS, lio, ll, lz, ln, nb, d8]
def optD : Option Nat → PyData
  | none => .none
  | some n => .int (n : Int)
theorem lcR (e0 e1 e2 e3 e4 e5 : Option RV) (ws : List Wd) (hw : ∀ w ∈ ws, w.ok) : lcF (.nm 5) bYes (cA (fun rs => if rs.length = 2 then F_number_behind (rs.map RV.arg) else .no) (aC (cC (.str "s")) (aC (cV 5) aN))) [e0, e1, e2, e3, e4, e5] (ws.map fun w => .str w.str) = .ok (ws.map fun w => optD w.sb) := by
  have h := lcF_map (tg := .nm 5) (t := bYes) (fe := cA (fun rs => if rs.length = 2 then F_number_behind (rs.map RV.arg) else .no) (aC (cC (.str "s")) (aC (cV 5) aN))) (env := [e0, e1, e2, e3, e4, e5]) (fun w : Wd => PyData.str w.str) (fun _ => true) (fun w => optD w.sb) ws fun w hm => by
    have nb := Wd.bs (hw w hm)
    refine ⟨[e0, e1, e2, e3, e4, some (.d (.str w.str))], rfl, rfl, fun _ => ⟨optR w.sb, ?_, by cases w.sb <;> rfl⟩⟩
    generalize w.str = W at *
    cases q : w.sb with
    | none =>
      rw [q] at nb
      have nb : F_number_behind [.d (.str "s"), .d (.str W)] = .ok (.d .none) := nb
      show _ = Rs.ok (RV.d .none)
      simp only [VT, oS, List.getElem?_cons_zero, List.getElem?_cons_succ, List.set_cons_succ, List.set_cons_zero, List.length_cons, List.length_nil, Nat.reduceAdd, Nat.reduceLT, Nat.reduceLeDiff, Nat.reduceEqDiff, if_true, if_false, List.map_cons, List.map_nil, Option.map_some, reduceIte, Option.bind_some, Option.bind_none, List.append_nil, List.nil_append, List.cons_append, beq_self_eq_true, nb]
    | some v =>
      rw [q] at nb
      have nb : F_number_behind [.d (.str "s"), .d (.str W)] = .ok (.d (.int (v : Int))) := nb
      show _ = Rs.ok (RV.d (.int (v : Int)))
      simp only [VT, oS, List.getElem?_cons_zero, List.getElem?_cons_succ, List.set_cons_succ, List.set_cons_zero, List.length_cons, List.length_nil, Nat.reduceAdd, Nat.reduceLT, Nat.reduceLeDiff, Nat.reduceEqDiff, if_true, if_false, List.map_cons, List.map_nil, Option.map_some, reduceIte, Option.bind_some, Option.bind_none, List.append_nil, List.nil_append, List.cons_append, beq_self_eq_true, nb]
  rw [h, List.filter_eq_self.mpr fun _ _ => rfl]
theorem lcL (e0 e1 e2 e3 e4 e5 : Option RV) (ws : List Wd) (hw : ∀ w ∈ ws, w.ok) : lcF (.nm 5) bYes (cA (fun rs => if rs.length = 2 then F__law_names (rs.map RV.arg) else .no) (aC (cV 5) (aC (cC (.str "s")) aN))) [e0, e1, e2, e3, e4, e5] (ws.map fun w => .str w.str) = .ok (ws.map fun w => optD w.sb) := by
  have h := lcF_map (tg := .nm 5) (t := bYes) (fe := cA (fun rs => if rs.length = 2 then F__law_names (rs.map RV.arg) else .no) (aC (cV 5) (aC (cC (.str "s")) aN))) (env := [e0, e1, e2, e3, e4, e5]) (fun w : Wd => PyData.str w.str) (fun _ => true) (fun w => optD w.sb) ws fun w hm => by
    have nb := Wd.lns (hw w hm)
    refine ⟨[e0, e1, e2, e3, e4, some (.d (.str w.str))], rfl, rfl, fun _ => ⟨optR w.sb, ?_, by cases w.sb <;> rfl⟩⟩
    generalize w.str = W at *
    cases q : w.sb with
    | none =>
      rw [q] at nb
      have nb : F__law_names [.d (.str W), .d (.str "s")] = .ok (.d .none) := nb
      show _ = Rs.ok (RV.d .none)
      simp only [VT, oS, List.getElem?_cons_zero, List.getElem?_cons_succ, List.set_cons_succ, List.set_cons_zero, List.length_cons, List.length_nil, Nat.reduceAdd, Nat.reduceLT, Nat.reduceLeDiff, Nat.reduceEqDiff, if_true, if_false, List.map_cons, List.map_nil, Option.map_some, reduceIte, Option.bind_some, Option.bind_none, List.append_nil, List.nil_append, List.cons_append, beq_self_eq_true, nb]
    | some v =>
      rw [q] at nb
      have nb : F__law_names [.d (.str W), .d (.str "s")] = .ok (.d (.int (v : Int))) := nb
      show _ = Rs.ok (RV.d (.int (v : Int)))
      simp only [VT, oS, List.getElem?_cons_zero, List.getElem?_cons_succ, List.set_cons_succ, List.set_cons_zero, List.length_cons, List.length_nil, Nat.reduceAdd, Nat.reduceLT, Nat.reduceLeDiff, Nat.reduceEqDiff, if_true, if_false, List.map_cons, List.map_nil, Option.map_some, reduceIte, Option.bind_some, Option.bind_none, List.append_nil, List.nil_append, List.cons_append, beq_self_eq_true, nb]
  rw [h, List.filter_eq_self.mpr fun _ _ => rfl]
theorem all_s : ∀ (ws : List Wd), (∀ w ∈ ws, w.ok) → (∃ w ∈ ws, w.sb = none) ∨ ∃ os : List Nat, ws = os.map (fun o => .op (.s o)) ∧ ∀ o ∈ os, o < 100000
  | [], _ => .inr ⟨[], rfl, fun _ z => by cases z⟩
  | w :: ws, h => by
    rcases all_s ws fun x hx => h x (List.mem_cons_of_mem _ hx) with ⟨x, hx, e⟩ | ⟨os, e, hb⟩
    · exact .inl ⟨x, List.mem_cons_of_mem _ hx, e⟩
    · have hw := h w List.mem_cons_self
      match w, hw with
      | .op (.s o), hw => exact .inr ⟨o :: os, by rw [e]; rfl, fun x hx => by
          rcases List.mem_cons.mp hx with rfl | hx
          · exact hw
          · exact hb x hx⟩
      | .op (.c v), _ => exact .inl ⟨_, List.mem_cons_self, rfl⟩
      | .op (.x v), _ => exact .inl ⟨_, List.mem_cons_self, rfl⟩
      | .li i, _ => exact .inl ⟨_, List.mem_cons_self, rfl⟩
theorem bad1R (N : Nat) (R : List (Str × FV)) (SD : List PyData) (hS : R.lookup ("steps" : Str) = some (.ol SD)) (hN : SD.length = N) (e1 e2 e4 e5 : Option RV) : ∀ (os : List Nat) (e3 : Option RV), (∃ o ∈ os, N ≤ o) →
    loopF (.nm 3) L0_Reader_take_outputs (os.map natI) [some (.ob true "Reader" R), e1, e2, e3, e4, e5] = .rm (some ("Reader", R)) (.str "unknown output")
  | [], e3, h => by obtain ⟨o, z, _⟩ := h; cases z
  | o :: os, e3, h => by
    rw [List.map_cons, loopF_cons]
    have t : tgE (.nm 3) (natI o) [some (.ob true "Reader" R), e1, e2, e3, e4, e5] = some [some (.ob true "Reader" R), e1, e2, some (.d (natI o)), e4, e5] := rfl
    rw [t]
    by_cases c : N ≤ o
    · have d1 : decide ((o : Int) ≥ (SD.length : Int)) = true := decide_eq_true (by omega)
      have st : L0_Reader_take_outputs [some (.ob true "Reader" R), e1, e2, some (.d (natI o)), e4, e5] = .rm (some ("Reader", R)) (.str "unknown output") := by
        show L0_Reader_take_outputs [some (.ob true "Reader" R), e1, e2, some (.d (.int (o : Int))), e4, e5] = _
        unfold L0_Reader_take_outputs
        simp only [VT, oS, List.getElem?_cons_zero, List.getElem?_cons_succ, List.set_cons_succ, List.set_cons_zero, List.length_cons, List.length_nil, Nat.reduceAdd, Nat.reduceLT, Nat.reduceLeDiff, Nat.reduceEqDiff, if_true, if_false, List.map_cons, List.map_nil, Option.map_some, reduceIte, Option.bind_some, Option.bind_none, List.append_nil, List.nil_append, List.cons_append, beq_self_eq_true, e_fldS, e_fld, e_obO, e_obB, e_fvd, e_fvl, e_fvF, e_toD, e_toL, e_retS, e_rmO, e_finM, e_finN, e_prop, e_okR, e_M, e_setM, e_appT, e_arO, e_boO, e_mCall, e_MF, e_plainD, e_plainO, e_putob, e_pbD, e_pbB, e_mkO, e_MP, e_fapp, e_fvO, e_dropM, e_ifM, e_retM, e_retNS, e_m2, e_mB, e_mPT, e_mNot, e_mOr, e_nbo, Out.then_rm, MO.out_ok, MO.out_ex, MO.bind_ok, Rs.mo_ok, Option.map_some, and_self, if_true, true_and, and_true, List.all_cons, List.all_nil, Bool.and_true, putFV_nil, hS, d1]
      simp only [st]
      rfl
    · have d1 : decide ((o : Int) ≥ (SD.length : Int)) = false := decide_eq_false (by omega)
      have st : L0_Reader_take_outputs [some (.ob true "Reader" R), e1, e2, some (.d (natI o)), e4, e5] = .nx [some (.ob true "Reader" R), e1, e2, some (.d (natI o)), e4, e5] := by
        show L0_Reader_take_outputs [some (.ob true "Reader" R), e1, e2, some (.d (.int (o : Int))), e4, e5] = _
        unfold L0_Reader_take_outputs
        simp only [VT, oS, List.getElem?_cons_zero, List.getElem?_cons_succ, List.set_cons_succ, List.set_cons_zero, List.length_cons, List.length_nil, Nat.reduceAdd, Nat.reduceLT, Nat.reduceLeDiff, Nat.reduceEqDiff, if_true, if_false, List.map_cons, List.map_nil, Option.map_some, reduceIte, Option.bind_some, Option.bind_none, List.append_nil, List.nil_append, List.cons_append, beq_self_eq_true, e_fldS, e_fld, e_obO, e_obB, e_fvd, e_fvl, e_fvF, e_toD, e_toL, e_retS, e_rmO, e_finM, e_finN, e_prop, e_okR, e_M, e_setM, e_appT, e_arO, e_boO, e_mCall, e_MF, e_plainD, e_plainO, e_putob, e_pbD, e_pbB, e_mkO, e_MP, e_fapp, e_fvO, e_dropM, e_ifM, e_retM, e_retNS, e_m2, e_mB, e_mPT, e_mNot, e_mOr, e_nbo, Out.then_rm, MO.out_ok, MO.out_ex, MO.bind_ok, Rs.mo_ok, Option.map_some, and_self, if_true, true_and, and_true, List.all_cons, List.all_nil, Bool.and_true, putFV_nil, hS, d1]
        rfl
      simp only [st, lp_nx]
      refine bad1R N R SD hS hN e1 e2 e4 e5 os _ ?_
      obtain ⟨x, hx, hn⟩ := h
      rcases List.mem_cons.mp hx with rfl | hx
      · exact absurd hn c
      · exact ⟨x, hx, hn⟩
theorem loop1L (N : Nat) (e0 e2 e4 e5 : Option RV) : ∀ (os : List Nat) (e3 : Option RV), ((∃ o ∈ os, N ≤ o) → loopF (.nm 3) L0__law_return_fault (os.map natI) [e0, some (.d (.int (N : Int))), e2, e3, e4, e5] = .rt (.d (.str "unknown output"))) ∧
    ((∀ o ∈ os, o < N) → ∃ e3', loopF (.nm 3) L0__law_return_fault (os.map natI) [e0, some (.d (.int (N : Int))), e2, e3, e4, e5] = .nx [e0, some (.d (.int (N : Int))), e2, e3', e4, e5])
  | [], e3 => ⟨fun h => (by obtain ⟨o, z, _⟩ := h; cases z), fun _ => ⟨e3, rfl⟩⟩
  | o :: os, e3 => by
    rw [List.map_cons, loopF_cons]
    have t : tgE (.nm 3) (natI o) [e0, some (.d (.int (N : Int))), e2, e3, e4, e5] = some [e0, some (.d (.int (N : Int))), e2, some (.d (natI o)), e4, e5] := rfl
    rw [t]
    obtain ⟨i1, i2⟩ := loop1L N e0 e2 e4 e5 os (some (.d (natI o)))
    by_cases c : N ≤ o
    · have d1 : decide ((o : Int) ≥ (N : Int)) = true := decide_eq_true (by omega)
      have st : L0__law_return_fault [e0, some (.d (.int (N : Int))), e2, some (.d (natI o)), e4, e5] = .rt (.d (.str "unknown output")) := by
        show L0__law_return_fault [e0, some (.d (.int (N : Int))), e2, some (.d (.int (o : Int))), e4, e5] = _
        unfold L0__law_return_fault
        simp only [VT, oS, List.getElem?_cons_zero, List.getElem?_cons_succ, List.set_cons_succ, List.set_cons_zero, List.length_cons, List.length_nil, Nat.reduceAdd, Nat.reduceLT, Nat.reduceLeDiff, Nat.reduceEqDiff, if_true, if_false, List.map_cons, List.map_nil, Option.map_some, reduceIte, Option.bind_some, Option.bind_none, List.append_nil, List.nil_append, List.cons_append, beq_self_eq_true, d1]
      simp only [st]
      exact ⟨fun _ => rfl, fun z => absurd (z o List.mem_cons_self) (by omega)⟩
    · have d1 : decide ((o : Int) ≥ (N : Int)) = false := decide_eq_false (by omega)
      have st : L0__law_return_fault [e0, some (.d (.int (N : Int))), e2, some (.d (natI o)), e4, e5] = .nx [e0, some (.d (.int (N : Int))), e2, some (.d (natI o)), e4, e5] := by
        show L0__law_return_fault [e0, some (.d (.int (N : Int))), e2, some (.d (.int (o : Int))), e4, e5] = _
        unfold L0__law_return_fault
        simp only [VT, oS, List.getElem?_cons_zero, List.getElem?_cons_succ, List.set_cons_succ, List.set_cons_zero, List.length_cons, List.length_nil, Nat.reduceAdd, Nat.reduceLT, Nat.reduceLeDiff, Nat.reduceEqDiff, if_true, if_false, List.map_cons, List.map_nil, Option.map_some, reduceIte, Option.bind_some, Option.bind_none, List.append_nil, List.nil_append, List.cons_append, beq_self_eq_true, d1]
        rfl
      simp only [st, lp_nx]
      refine ⟨fun h => i1 ?_, fun h => i2 fun x hx => h x (List.mem_cons_of_mem _ hx)⟩
      obtain ⟨x, hx, hn⟩ := h
      rcases List.mem_cons.mp hx with rfl | hx
      · exact absurd hn c
      · exact ⟨x, hx, hn⟩
theorem bad2R (R : List (Str × FV)) (e1 e3 e5 : Option RV) (os : List Nat) : ∀ (n i : Nat) (e4 : Option RV), 1 ≤ i → i + n = os.length → (∃ (j : Nat) (a b : Nat), i ≤ j ∧ os[j]? = some b ∧ os[j - 1]? = some a ∧ b ≤ a) →
    loopF (.nm 4) L1_Reader_take_outputs ((List.range' i n).map natI) [some (.ob true "Reader" R), e1, some (.d (.list (os.map natI))), e3, e4, e5] = .rm (some ("Reader", R)) (.str "not ascending")
  | 0, i, e4, _, h2, h => by
    obtain ⟨j, a, b, z1, z2, _⟩ := h
    have := (List.getElem?_eq_some_iff.mp z2).1
    omega
  | n + 1, i, e4, h1, h2, h => by
    rw [List.range'_succ, List.map_cons, loopF_cons]
    have hi : i < os.length := by omega
    have hj : i - 1 < os.length := by omega
    have g1 : atI (os.map natI) (i : Int) = some (.int ((os[i] : Nat) : Int)) := atI_nats (List.getElem?_eq_getElem hi)
    have g2 : atI (os.map natI) ((i : Int) - 1) = some (.int ((os[i - 1] : Nat) : Int)) := by
      rw [show (i : Int) - 1 = ((i - 1 : Nat) : Int) by omega]
      exact atI_nats (List.getElem?_eq_getElem hj)
    have t : tgE (.nm 4) (natI i) [some (.ob true "Reader" R), e1, some (.d (.list (os.map natI))), e3, e4, e5] = some [some (.ob true "Reader" R), e1, some (.d (.list (os.map natI))), e3, some (.d (natI i)), e5] := rfl
    rw [t]
    by_cases c : os[i] ≤ os[i - 1]
    · have d1 : decide (((os[i] : Nat) : Int) ≤ ((os[i - 1] : Nat) : Int)) = true := decide_eq_true (by omega)
      have st : L1_Reader_take_outputs [some (.ob true "Reader" R), e1, some (.d (.list (os.map natI))), e3, some (.d (natI i)), e5] = .rm (some ("Reader", R)) (.str "not ascending") := by
        show L1_Reader_take_outputs [some (.ob true "Reader" R), e1, some (.d (.list (os.map natI))), e3, some (.d (.int (i : Int))), e5] = _
        unfold L1_Reader_take_outputs
        generalize os.map natI = ON at *
        simp only [VT, oS, List.getElem?_cons_zero, List.getElem?_cons_succ, List.set_cons_succ, List.set_cons_zero, List.length_cons, List.length_nil, Nat.reduceAdd, Nat.reduceLT, Nat.reduceLeDiff, Nat.reduceEqDiff, if_true, if_false, List.map_cons, List.map_nil, Option.map_some, reduceIte, Option.bind_some, Option.bind_none, List.append_nil, List.nil_append, List.cons_append, beq_self_eq_true, e_fldS, e_fld, e_obO, e_obB, e_fvd, e_fvl, e_fvF, e_toD, e_toL, e_retS, e_rmO, e_finM, e_finN, e_prop, e_okR, e_M, e_setM, e_appT, e_arO, e_boO, e_mCall, e_MF, e_plainD, e_plainO, e_putob, e_pbD, e_pbB, e_mkO, e_MP, e_fapp, e_fvO, e_dropM, e_ifM, e_retM, e_retNS, e_m2, e_mB, e_mPT, e_mNot, e_mOr, e_nbo, Out.then_rm, MO.out_ok, MO.out_ex, MO.bind_ok, Rs.mo_ok, Option.map_some, and_self, if_true, true_and, and_true, List.all_cons, List.all_nil, Bool.and_true, putFV_nil, g1, g2, d1]
      simp only [st]
      rfl
    · have d1 : decide (((os[i] : Nat) : Int) ≤ ((os[i - 1] : Nat) : Int)) = false := decide_eq_false (by omega)
      have st : L1_Reader_take_outputs [some (.ob true "Reader" R), e1, some (.d (.list (os.map natI))), e3, some (.d (natI i)), e5] = .nx [some (.ob true "Reader" R), e1, some (.d (.list (os.map natI))), e3, some (.d (natI i)), e5] := by
        show L1_Reader_take_outputs [some (.ob true "Reader" R), e1, some (.d (.list (os.map natI))), e3, some (.d (.int (i : Int))), e5] = _
        unfold L1_Reader_take_outputs
        generalize os.map natI = ON at *
        simp only [VT, oS, List.getElem?_cons_zero, List.getElem?_cons_succ, List.set_cons_succ, List.set_cons_zero, List.length_cons, List.length_nil, Nat.reduceAdd, Nat.reduceLT, Nat.reduceLeDiff, Nat.reduceEqDiff, if_true, if_false, List.map_cons, List.map_nil, Option.map_some, reduceIte, Option.bind_some, Option.bind_none, List.append_nil, List.nil_append, List.cons_append, beq_self_eq_true, e_fldS, e_fld, e_obO, e_obB, e_fvd, e_fvl, e_fvF, e_toD, e_toL, e_retS, e_rmO, e_finM, e_finN, e_prop, e_okR, e_M, e_setM, e_appT, e_arO, e_boO, e_mCall, e_MF, e_plainD, e_plainO, e_putob, e_pbD, e_pbB, e_mkO, e_MP, e_fapp, e_fvO, e_dropM, e_ifM, e_retM, e_retNS, e_m2, e_mB, e_mPT, e_mNot, e_mOr, e_nbo, Out.then_rm, MO.out_ok, MO.out_ex, MO.bind_ok, Rs.mo_ok, Option.map_some, and_self, if_true, true_and, and_true, List.all_cons, List.all_nil, Bool.and_true, putFV_nil, g1, g2, d1]
        rfl
      simp only [st, lp_nx]
      refine bad2R R e1 e3 e5 os n (i + 1) _ (by omega) (by omega) ?_
      obtain ⟨j, a, b, z1, z2, z3, z4⟩ := h
      refine ⟨j, a, b, ?_, z2, z3, z4⟩
      by_cases ij : i = j
      · subst ij
        rw [List.getElem?_eq_getElem hi] at z2
        rw [List.getElem?_eq_getElem hj] at z3
        cases z2; cases z3
        exact absurd z4 c
      · omega
theorem bad2L (e0 e1 e3 e5 : Option RV) (os : List Nat) : ∀ (n i : Nat) (e4 : Option RV), 1 ≤ i → i + n = os.length → (∃ (j : Nat) (a b : Nat), i ≤ j ∧ os[j]? = some b ∧ os[j - 1]? = some a ∧ b ≤ a) →
    loopF (.nm 4) L1__law_return_fault ((List.range' i n).map natI) [e0, e1, some (.d (.list (os.map natI))), e3, e4, e5] = .rt (.d (.str "not ascending"))
  | 0, i, e4, _, h2, h => by
    obtain ⟨j, a, b, z1, z2, _⟩ := h
    have := (List.getElem?_eq_some_iff.mp z2).1
    omega
  | n + 1, i, e4, h1, h2, h => by
    rw [List.range'_succ, List.map_cons, loopF_cons]
    have hi : i < os.length := by omega
    have hj : i - 1 < os.length := by omega
    have g1 : atI (os.map natI) (i : Int) = some (.int ((os[i] : Nat) : Int)) := atI_nats (List.getElem?_eq_getElem hi)
    have g2 : atI (os.map natI) ((i : Int) - 1) = some (.int ((os[i - 1] : Nat) : Int)) := by
      rw [show (i : Int) - 1 = ((i - 1 : Nat) : Int) by omega]
      exact atI_nats (List.getElem?_eq_getElem hj)
    have t : tgE (.nm 4) (natI i) [e0, e1, some (.d (.list (os.map natI))), e3, e4, e5] = some [e0, e1, some (.d (.list (os.map natI))), e3, some (.d (natI i)), e5] := rfl
    rw [t]
    by_cases c : os[i] ≤ os[i - 1]
    · have d1 : decide (((os[i] : Nat) : Int) ≤ ((os[i - 1] : Nat) : Int)) = true := decide_eq_true (by omega)
      have st : L1__law_return_fault [e0, e1, some (.d (.list (os.map natI))), e3, some (.d (natI i)), e5] = .rt (.d (.str "not ascending")) := by
        show L1__law_return_fault [e0, e1, some (.d (.list (os.map natI))), e3, some (.d (.int (i : Int))), e5] = _
        unfold L1__law_return_fault
        generalize os.map natI = ON at *
        simp only [VT, oS, List.getElem?_cons_zero, List.getElem?_cons_succ, List.set_cons_succ, List.set_cons_zero, List.length_cons, List.length_nil, Nat.reduceAdd, Nat.reduceLT, Nat.reduceLeDiff, Nat.reduceEqDiff, if_true, if_false, List.map_cons, List.map_nil, Option.map_some, reduceIte, Option.bind_some, Option.bind_none, List.append_nil, List.nil_append, List.cons_append, beq_self_eq_true, g1, g2, d1]
      simp only [st]
      rfl
    · have d1 : decide (((os[i] : Nat) : Int) ≤ ((os[i - 1] : Nat) : Int)) = false := decide_eq_false (by omega)
      have st : L1__law_return_fault [e0, e1, some (.d (.list (os.map natI))), e3, some (.d (natI i)), e5] = .nx [e0, e1, some (.d (.list (os.map natI))), e3, some (.d (natI i)), e5] := by
        show L1__law_return_fault [e0, e1, some (.d (.list (os.map natI))), e3, some (.d (.int (i : Int))), e5] = _
        unfold L1__law_return_fault
        generalize os.map natI = ON at *
        simp only [VT, oS, List.getElem?_cons_zero, List.getElem?_cons_succ, List.set_cons_succ, List.set_cons_zero, List.length_cons, List.length_nil, Nat.reduceAdd, Nat.reduceLT, Nat.reduceLeDiff, Nat.reduceEqDiff, if_true, if_false, List.map_cons, List.map_nil, Option.map_some, reduceIte, Option.bind_some, Option.bind_none, List.append_nil, List.nil_append, List.cons_append, beq_self_eq_true, g1, g2, d1]
        rfl
      simp only [st, lp_nx]
      refine bad2L e0 e1 e3 e5 os n (i + 1) _ (by omega) (by omega) ?_
      obtain ⟨j, a, b, z1, z2, z3, z4⟩ := h
      refine ⟨j, a, b, ?_, z2, z3, z4⟩
      by_cases ij : i = j
      · subst ij
        rw [List.getElem?_eq_getElem hi] at z2
        rw [List.getElem?_eq_getElem hj] at z3
        cases z2; cases z3
        exact absurd z4 c
      · omega
theorem up2L (e0 e1 e3 e5 : Option RV) (os : List Nat) (hu : os.Pairwise (· < ·)) : ∀ (n i : Nat) (e4 : Option RV), 1 ≤ i → i + n = os.length →
    ∃ e4', loopF (.nm 4) L1__law_return_fault ((List.range' i n).map natI) [e0, e1, some (.d (.list (os.map natI))), e3, e4, e5] = .nx [e0, e1, some (.d (.list (os.map natI))), e3, e4', e5]
  | 0, i, e4, _, _ => ⟨e4, rfl⟩
  | n + 1, i, e4, h1, h2 => by
    obtain ⟨e4', ih⟩ := up2L e0 e1 e3 e5 os hu n (i + 1) (some (.d (natI i))) (by omega) (by omega)
    refine ⟨e4', ?_⟩
    rw [List.range'_succ, List.map_cons, loopF_cons]
    have hi : i < os.length := by omega
    have hj : i - 1 < os.length := by omega
    have lt : os[i - 1] < os[i] := List.pairwise_iff_getElem.mp hu (i - 1) i hj hi (by omega)
    have g1 : atI (os.map natI) (i : Int) = some (.int ((os[i] : Nat) : Int)) := atI_nats (List.getElem?_eq_getElem hi)
    have g2 : atI (os.map natI) ((i : Int) - 1) = some (.int ((os[i - 1] : Nat) : Int)) := by
      rw [show (i : Int) - 1 = ((i - 1 : Nat) : Int) by omega]
      exact atI_nats (List.getElem?_eq_getElem hj)
    have d1 : decide (((os[i] : Nat) : Int) ≤ ((os[i - 1] : Nat) : Int)) = false := decide_eq_false (by omega)
    have t : tgE (.nm 4) (natI i) [e0, e1, some (.d (.list (os.map natI))), e3, e4, e5] = some [e0, e1, some (.d (.list (os.map natI))), e3, some (.d (natI i)), e5] := rfl
    have st : L1__law_return_fault [e0, e1, some (.d (.list (os.map natI))), e3, some (.d (natI i)), e5] = .nx [e0, e1, some (.d (.list (os.map natI))), e3, some (.d (natI i)), e5] := by
      show L1__law_return_fault [e0, e1, some (.d (.list (os.map natI))), e3, some (.d (.int (i : Int))), e5] = _
      unfold L1__law_return_fault
      generalize os.map natI = ON at *
      simp only [VT, oS, List.getElem?_cons_zero, List.getElem?_cons_succ, List.set_cons_succ, List.set_cons_zero, List.length_cons, List.length_nil, Nat.reduceAdd, Nat.reduceLT, Nat.reduceLeDiff, Nat.reduceEqDiff, if_true, if_false, List.map_cons, List.map_nil, Option.map_some, reduceIte, Option.bind_some, Option.bind_none, List.append_nil, List.nil_append, List.cons_append, beq_self_eq_true, g1, g2, d1]
      rfl
    rw [t]
    simp only [st, lp_nx]
    exact ih
theorem asc_dec (os : List Nat) : os.Pairwise (· < ·) ∨ ∃ (j : Nat) (a b : Nat), 1 ≤ j ∧ os[j]? = some b ∧ os[j - 1]? = some a ∧ b ≤ a := by
  induction os with
  | nil => exact .inl .nil
  | cons x os ih =>
    rcases ih with h | ⟨j, a, b, z1, z2, z3, z4⟩
    · cases os with
      | nil => exact .inl (List.pairwise_singleton ..)
      | cons y r =>
        by_cases c : x < y
        · refine .inl (List.pairwise_cons.mpr ⟨fun z hz => ?_, h⟩)
          rcases List.mem_cons.mp hz with rfl | hz
          · exact c
          · have := (List.pairwise_cons.mp h).1 z hz
            omega
        · exact .inr ⟨1, x, y, by omega, rfl, rfl, by omega⟩
    · refine .inr ⟨j + 1, a, b, by omega, by simpa using z2, ?_, z4⟩
      rw [show j + 1 - 1 = (j - 1) + 1 by omega]
      simpa using z3
theorem asc_ge {os : List Nat} (h : os.Pairwise (· < ·)) : ∀ (i : Nat) (a : Nat), os[i]? = some a → i ≤ a
  | 0, a, _ => Nat.zero_le _
  | i + 1, a, e => by
    have hi := (List.getElem?_eq_some_iff.mp e).1
    have ea := (List.getElem?_eq_some_iff.mp e).2
    have := asc_ge h i os[i] (List.getElem?_eq_getElem (by omega))
    have lt : os[i] < os[i + 1] := List.pairwise_iff_getElem.mp h i (i + 1) (by omega) hi (by omega)
    omega
theorem asc_len {os : List Nat} {N : Nat} (h : os.Pairwise (· < ·)) (hb : ∀ o ∈ os, o < N) : os.length ≤ N := by
  cases e : os.length with
  | zero => omega
  | succ k =>
    have hk : k < os.length := by omega
    have := asc_ge h k os[k] (List.getElem?_eq_getElem hk)
    have := hb os[k] (List.getElem_mem hk)
    omega
def RetT (m n : Nat) (ss : List Stp) (L : List PyData) : Prop :=
  (∃ msg : Str, PyData.strOk msg = true ∧ F_Reader_take_outputs [.ob true "Reader" (rdr (m : Int) (n : Int) ss .none), .d (.list L)] = .ok "Reader" (rdr (m : Int) (n : Int) ss .none) (.str msg) ∧ F__law_return_fault [.d (.list L), .d (.int (ss.length : Int))] = .ok (.d (.str msg))) ∨
  (∃ os : List Nat, L = os.map (fun o => .str (lx "s" o)) ∧ os.Pairwise (· < ·) ∧ (∀ o ∈ os, o < ss.length) ∧ os ≠ [] ∧ os.length ≤ 8 ∧ F__law_return_fault [.d (.list L), .d (.int (ss.length : Int))] = .ok (.d .none))
theorem ret_both {ws : List Wd} (hw : ∀ w ∈ ws, w.ok) (hz : ws.length ≤ 1000) (m n : Nat) (ss : List Stp) (h8 : ss.length ≤ 8) : RetT m n ss (ws.map fun w => .str w.str) := by
  have lS := rdr_s (m : Int) (n : Int) ss .none
  have ll : (ss.map Stp.d).length = ss.length := List.length_map _
  have lw : (ws.map fun w => PyData.str w.str).length = ws.length := List.length_map _
  have lc := lcR (some (.ob true "Reader" (rdr (m : Int) (n : Int) ss .none))) (some (.d (.list (ws.map fun w => .str w.str)))) none none none none ws hw
  have lc2 := lcL (some (.d (.list (ws.map fun w => .str w.str)))) (some (.d (.int (ss.length : Int)))) none none none none ws hw
  have hz0 : ws.length ≤ 1000000 := by omega
  have s0 : SeqAt.shaped .none = true := by decide +kernel
  have sN : SeqAt.shaped (.list (ws.map fun w => optD w.sb)) = true := (Nice.lst (k := 0) fun d hd => by
    obtain ⟨w, _, rfl⟩ := List.mem_map.mp hd
    cases w.sb with
    | none => exact Nice.none _
    | some v => exact Nice.int _ _).shaped (by decide)
  rcases all_s ws hw with ⟨w, hm, e⟩ | ⟨os, e, hb⟩
  · have an : ((ws.map fun w => optD w.sb).any fun z => PyData.eqv z .none) = true := by
      rw [List.any_eq_true]
      exact ⟨optD w.sb, List.mem_map.mpr ⟨w, hm, rfl⟩, by rw [e]; rfl⟩
    refine .inl ⟨"not understood", by decide +kernel, ?_, ?_⟩
    · show (B_Reader_take_outputs [some (.ob true "Reader" (rdr (m : Int) (n : Int) ss .none)), some (.d (.list (ws.map fun w => .str w.str))), none, none, none, none]).finM = _
      unfold B_Reader_take_outputs
      generalize (ws.map fun w => optD w.sb) = ON at *
      generalize (ws.map fun w => PyData.str w.str) = WS at *
      generalize rdr (m : Int) (n : Int) ss .none = R1 at *
      simp only [VT, oS, List.getElem?_cons_zero, List.getElem?_cons_succ, List.set_cons_succ, List.set_cons_zero, List.length_cons, List.length_nil, Nat.reduceAdd, Nat.reduceLT, Nat.reduceLeDiff, Nat.reduceEqDiff, if_true, if_false, List.map_cons, List.map_nil, Option.map_some, reduceIte, Option.bind_some, Option.bind_none, List.append_nil, List.nil_append, List.cons_append, beq_self_eq_true, e_fldS, e_fld, e_obO, e_obB, e_fvd, e_fvl, e_fvF, e_toD, e_toL, e_retS, e_rmO, e_finM, e_finN, e_prop, e_okR, e_M, e_setM, e_appT, e_arO, e_boO, e_mCall, e_MF, e_plainD, e_plainO, e_putob, e_pbD, e_pbB, e_mkO, e_MP, e_fapp, e_fvO, e_dropM, e_ifM, e_retM, e_retNS, e_m2, e_mB, e_mPT, e_mNot, e_mOr, e_nbo, Out.then_rm, MO.out_ok, MO.out_ex, MO.bind_ok, Rs.mo_ok, Option.map_some, and_self, if_true, true_and, and_true, List.all_cons, List.all_nil, Bool.and_true, putFV_nil, lw, hz0, lc, sN, s0, an]
    · show (B__law_return_fault [some (.d (.list (ws.map fun w => .str w.str))), some (.d (.int (ss.length : Int))), none, none, none, none]).fin = _
      unfold B__law_return_fault
      generalize (ws.map fun w => optD w.sb) = ON at *
      generalize (ws.map fun w => PyData.str w.str) = WS at *
      simp only [VT, oS, List.getElem?_cons_zero, List.getElem?_cons_succ, List.set_cons_succ, List.set_cons_zero, List.length_cons, List.length_nil, Nat.reduceAdd, Nat.reduceLT, Nat.reduceLeDiff, Nat.reduceEqDiff, if_true, if_false, List.map_cons, List.map_nil, Option.map_some, reduceIte, Option.bind_some, Option.bind_none, List.append_nil, List.nil_append, List.cons_append, beq_self_eq_true, lw, hz0, lc2, sN, s0, an]
  · have eN : (ws.map fun w => optD w.sb) = os.map natI := by rw [e, List.map_map]; rfl
    have eW : (ws.map fun w => PyData.str w.str) = os.map (fun o => .str (lx "s" o)) := by rw [e, List.map_map]; rfl
    have eL : ws.length = os.length := by rw [e, List.length_map]
    rw [eN] at lc lc2 sN
    rw [eW] at lc lc2 lw ⊢
    have lo : (os.map natI).length = os.length := List.length_map _
    have an : ((os.map natI).any fun z => PyData.eqv z .none) = false := by
      rw [List.any_eq_false]
      intro z hz
      obtain ⟨o, _, rfl⟩ := List.mem_map.mp hz
      exact Bool.false_ne_true
    by_cases c0 : os = []
    · subst c0
      refine .inl ⟨"no outputs", by decide +kernel, ?_, ?_⟩
      · have d0 : decide (((([] : List Nat).map natI).length : Int) = 0) = true := rfl
        show (B_Reader_take_outputs [some (.ob true "Reader" (rdr (m : Int) (n : Int) ss .none)), some (.d (.list (([] : List Nat).map fun o => .str (lx "s" o)))), none, none, none, none]).finM = _
        unfold B_Reader_take_outputs
        generalize ([] : List Nat).map natI = ON at *
        generalize (([] : List Nat).map fun o => PyData.str (lx "s" o)) = WS at *
        generalize rdr (m : Int) (n : Int) ss .none = R1 at *
        simp only [VT, oS, List.getElem?_cons_zero, List.getElem?_cons_succ, List.set_cons_succ, List.set_cons_zero, List.length_cons, List.length_nil, Nat.reduceAdd, Nat.reduceLT, Nat.reduceLeDiff, Nat.reduceEqDiff, if_true, if_false, List.map_cons, List.map_nil, Option.map_some, reduceIte, Option.bind_some, Option.bind_none, List.append_nil, List.nil_append, List.cons_append, beq_self_eq_true, e_fldS, e_fld, e_obO, e_obB, e_fvd, e_fvl, e_fvF, e_toD, e_toL, e_retS, e_rmO, e_finM, e_finN, e_prop, e_okR, e_M, e_setM, e_appT, e_arO, e_boO, e_mCall, e_MF, e_plainD, e_plainO, e_putob, e_pbD, e_pbB, e_mkO, e_MP, e_fapp, e_fvO, e_dropM, e_ifM, e_retM, e_retNS, e_m2, e_mB, e_mPT, e_mNot, e_mOr, e_nbo, Out.then_rm, MO.out_ok, MO.out_ex, MO.bind_ok, Rs.mo_ok, Option.map_some, and_self, if_true, true_and, and_true, List.all_cons, List.all_nil, Bool.and_true, putFV_nil, lw, hz0, lc, sN, s0, an, d0]
      · have d0 : decide (((([] : List Nat).map natI).length : Int) = 0) = true := rfl
        show (B__law_return_fault [some (.d (.list (([] : List Nat).map fun o => .str (lx "s" o)))), some (.d (.int (ss.length : Int))), none, none, none, none]).fin = _
        unfold B__law_return_fault
        generalize ([] : List Nat).map natI = ON at *
        generalize (([] : List Nat).map fun o => PyData.str (lx "s" o)) = WS at *
        simp only [VT, oS, List.getElem?_cons_zero, List.getElem?_cons_succ, List.set_cons_succ, List.set_cons_zero, List.length_cons, List.length_nil, Nat.reduceAdd, Nat.reduceLT, Nat.reduceLeDiff, Nat.reduceEqDiff, if_true, if_false, List.map_cons, List.map_nil, Option.map_some, reduceIte, Option.bind_some, Option.bind_none, List.append_nil, List.nil_append, List.cons_append, beq_self_eq_true, lw, hz0, lc2, sN, s0, an, d0]
    have hp : 1 ≤ os.length := List.length_pos_iff.mpr c0
    have d0 : decide ((os.length : Int) = 0) = false := decide_eq_false (by omega)
    have lz : os.length ≤ 1000000 := by omega
    have r1 : gR2 [.d (.int 1), .d (.int (os.length : Int))] = .ok ((List.range' 1 (os.length - 1)).map natI) := by
      show (if (1 : Int).natAbs ≤ 1000000 ∧ ((os.length : Int)).natAbs ≤ 1000000 then Rs.ok (rngL 1 ((os.length : Int) - 1).toNat) else .no) = _
      rw [if_pos ⟨by decide, by omega⟩, show ((os.length : Int) - 1).toNat = os.length - 1 by omega, rng1]
    by_cases c1 : ∃ o ∈ os, ss.length ≤ o
    · refine .inl ⟨"unknown output", by decide +kernel, ?_, ?_⟩
      · have l1 := bad1R ss.length (rdr (m : Int) (n : Int) ss .none) (ss.map Stp.d) lS ll (some (.d (.list (os.map fun o => .str (lx "s" o))))) (some (.d (.list (os.map natI)))) none none os none c1
        show (B_Reader_take_outputs [some (.ob true "Reader" (rdr (m : Int) (n : Int) ss .none)), some (.d (.list (os.map fun o => .str (lx "s" o)))), none, none, none, none]).finM = _
        unfold B_Reader_take_outputs
        generalize os.map natI = ON at *
        generalize (os.map fun o => PyData.str (lx "s" o)) = WS at *
        generalize rdr (m : Int) (n : Int) ss .none = R1 at *
        simp only [VT, oS, List.getElem?_cons_zero, List.getElem?_cons_succ, List.set_cons_succ, List.set_cons_zero, List.length_cons, List.length_nil, Nat.reduceAdd, Nat.reduceLT, Nat.reduceLeDiff, Nat.reduceEqDiff, if_true, if_false, List.map_cons, List.map_nil, Option.map_some, reduceIte, Option.bind_some, Option.bind_none, List.append_nil, List.nil_append, List.cons_append, beq_self_eq_true, e_fldS, e_fld, e_obO, e_obB, e_fvd, e_fvl, e_fvF, e_toD, e_toL, e_retS, e_rmO, e_finM, e_finN, e_prop, e_okR, e_M, e_setM, e_appT, e_arO, e_boO, e_mCall, e_MF, e_plainD, e_plainO, e_putob, e_pbD, e_pbB, e_mkO, e_MP, e_fapp, e_fvO, e_dropM, e_ifM, e_retM, e_retNS, e_m2, e_mB, e_mPT, e_mNot, e_mOr, e_nbo, Out.then_rm, MO.out_ok, MO.out_ex, MO.bind_ok, Rs.mo_ok, Option.map_some, and_self, if_true, true_and, and_true, List.all_cons, List.all_nil, Bool.and_true, putFV_nil, lo, lw, hz0, lc, sN, s0, an, d0, l1]
      · have l1 := (loop1L ss.length (some (.d (.list (os.map fun o => .str (lx "s" o))))) (some (.d (.list (os.map natI)))) none none os none).1 c1
        show (B__law_return_fault [some (.d (.list (os.map fun o => .str (lx "s" o)))), some (.d (.int (ss.length : Int))), none, none, none, none]).fin = _
        unfold B__law_return_fault
        generalize os.map natI = ON at *
        generalize (os.map fun o => PyData.str (lx "s" o)) = WS at *
        simp only [VT, oS, List.getElem?_cons_zero, List.getElem?_cons_succ, List.set_cons_succ, List.set_cons_zero, List.length_cons, List.length_nil, Nat.reduceAdd, Nat.reduceLT, Nat.reduceLeDiff, Nat.reduceEqDiff, if_true, if_false, List.map_cons, List.map_nil, Option.map_some, reduceIte, Option.bind_some, Option.bind_none, List.append_nil, List.nil_append, List.cons_append, beq_self_eq_true, lo, lw, hz0, lc2, sN, s0, an, d0, l1]
    have hn : ∀ o ∈ os, o < ss.length := fun o ho => by
      by_cases z : o < ss.length
      · exact z
      · exact absurd ⟨o, ho, by omega⟩ c1
    obtain ⟨e3', l1⟩ := outs_small ss.length .none (rdr (m : Int) (n : Int) ss .none) (ss.map Stp.d) lS ll (some (.d (.list (os.map fun o => .str (lx "s" o))))) (some (.d (.list (os.map natI)))) none none os none hn
    obtain ⟨f3', k1⟩ := (loop1L ss.length (some (.d (.list (os.map fun o => .str (lx "s" o))))) (some (.d (.list (os.map natI)))) none none os none).2 hn
    rcases asc_dec os with hu | ⟨j, a, b, z1, z2, z3, z4⟩
    · right
      refine ⟨os, rfl, hu, hn, c0, Nat.le_trans (asc_len hu hn) h8, ?_⟩
      obtain ⟨f4', k2⟩ := up2L (some (.d (.list (os.map fun o => .str (lx "s" o))))) (some (.d (.int (ss.length : Int)))) f3' none os hu (os.length - 1) 1 none (by omega) (by omega)
      show (B__law_return_fault [some (.d (.list (os.map fun o => .str (lx "s" o)))), some (.d (.int (ss.length : Int))), none, none, none, none]).fin = _
      unfold B__law_return_fault
      generalize os.map natI = ON at *
      generalize (os.map fun o => PyData.str (lx "s" o)) = WS at *
      generalize (List.range' 1 (os.length - 1)).map natI = RG at *
      simp only [VT, oS, List.getElem?_cons_zero, List.getElem?_cons_succ, List.set_cons_succ, List.set_cons_zero, List.length_cons, List.length_nil, Nat.reduceAdd, Nat.reduceLT, Nat.reduceLeDiff, Nat.reduceEqDiff, if_true, if_false, List.map_cons, List.map_nil, Option.map_some, reduceIte, Option.bind_some, Option.bind_none, List.append_nil, List.nil_append, List.cons_append, beq_self_eq_true, lo, lw, hz0, lz, lc2, sN, s0, an, d0, k1, r1, k2]
    · refine .inl ⟨"not ascending", by decide +kernel, ?_, ?_⟩
      · have l2 := bad2R (rdr (m : Int) (n : Int) ss .none) (some (.d (.list (os.map fun o => .str (lx "s" o))))) e3' none os (os.length - 1) 1 none (by omega) (by omega) ⟨j, a, b, z1, z2, z3, z4⟩
        show (B_Reader_take_outputs [some (.ob true "Reader" (rdr (m : Int) (n : Int) ss .none)), some (.d (.list (os.map fun o => .str (lx "s" o)))), none, none, none, none]).finM = _
        unfold B_Reader_take_outputs
        generalize os.map natI = ON at *
        generalize (os.map fun o => PyData.str (lx "s" o)) = WS at *
        generalize rdr (m : Int) (n : Int) ss .none = R1 at *
        generalize (List.range' 1 (os.length - 1)).map natI = RG at *
        simp only [VT, oS, List.getElem?_cons_zero, List.getElem?_cons_succ, List.set_cons_succ, List.set_cons_zero, List.length_cons, List.length_nil, Nat.reduceAdd, Nat.reduceLT, Nat.reduceLeDiff, Nat.reduceEqDiff, if_true, if_false, List.map_cons, List.map_nil, Option.map_some, reduceIte, Option.bind_some, Option.bind_none, List.append_nil, List.nil_append, List.cons_append, beq_self_eq_true, e_fldS, e_fld, e_obO, e_obB, e_fvd, e_fvl, e_fvF, e_toD, e_toL, e_retS, e_rmO, e_finM, e_finN, e_prop, e_okR, e_M, e_setM, e_appT, e_arO, e_boO, e_mCall, e_MF, e_plainD, e_plainO, e_putob, e_pbD, e_pbB, e_mkO, e_MP, e_fapp, e_fvO, e_dropM, e_ifM, e_retM, e_retNS, e_m2, e_mB, e_mPT, e_mNot, e_mOr, e_nbo, Out.then_rm, MO.out_ok, MO.out_ex, MO.bind_ok, Rs.mo_ok, Option.map_some, and_self, if_true, true_and, and_true, List.all_cons, List.all_nil, Bool.and_true, putFV_nil, lo, lw, hz0, lz, lc, sN, s0, an, d0, l1, r1, l2]
      · have k2 := bad2L (some (.d (.list (os.map fun o => .str (lx "s" o))))) (some (.d (.int (ss.length : Int)))) f3' none os (os.length - 1) 1 none (by omega) (by omega) ⟨j, a, b, z1, z2, z3, z4⟩
        show (B__law_return_fault [some (.d (.list (os.map fun o => .str (lx "s" o)))), some (.d (.int (ss.length : Int))), none, none, none, none]).fin = _
        unfold B__law_return_fault
        generalize os.map natI = ON at *
        generalize (os.map fun o => PyData.str (lx "s" o)) = WS at *
        generalize (List.range' 1 (os.length - 1)).map natI = RG at *
        simp only [VT, oS, List.getElem?_cons_zero, List.getElem?_cons_succ, List.set_cons_succ, List.set_cons_zero, List.length_cons, List.length_nil, Nat.reduceAdd, Nat.reduceLT, Nat.reduceLeDiff, Nat.reduceEqDiff, if_true, if_false, List.map_cons, List.map_nil, Option.map_some, reduceIte, Option.bind_some, Option.bind_none, List.append_nil, List.nil_append, List.cons_append, beq_self_eq_true, lo, lw, hz0, lz, lc2, sN, s0, an, d0, k1, r1, k2]
noncomputable def dueX0 : VEnv → Out := (sSeq (sIf (bOr (cB (c2 gNe (c2 gIx (cV 5) (cC (.int 0))) (cC (.str "mod")))) (bOr (cB (c2 gIs (cV 6) (cC .none))) (bNot (cB (cCh gLe gLe (cC (.int 2)) (cV 6) (cC (.int 1000))))))) (sRet (cA gTupl (aC (cC (.int 1)) (aC (cC (.str "expected mod")) aN)))) sNil) (sFz 6 (sSet 2 (cV 6))))
noncomputable def dueX1 : VEnv → Out := (sSeq (sIf (bOr (cB (c2 gNe (c2 gIx (cV 5) (cC (.int 0))) (cC (.str "inputs")))) (bOr (cB (c2 gIs (cV 6) (cC .none))) (bNot (cB (cCh gLe gLe (cC (.int 1)) (cV 6) (cC (.int 6))))))) (sRet (cA gTupl (aC (cC (.int 2)) (aC (cC (.str "expected inputs")) aN)))) sNil) (sFz 6 (sSet 3 (cV 6))))
noncomputable def dueXR : VEnv → Out := (sSeq (sSet 7 (cA (fun rs => if rs.length = 2 then F__law_return_fault (rs.map RV.arg) else .no) (aC (cSl (cV 5) (oS (cC (.int 1))) oN) (aC (cA gLen (aC (cV 1) aN)) aN)))) (sSeq (sIf (cB (c2 gIsNot (cV 7) (cC .none))) (sFz 7 (sRet (cA gTupl (aC (c2 gAdd (cV 4) (cC (.int 1))) (aC (cV 7) aN))))) sNil) (sSeq (sIf (cB (c2 gLt (c2 gAdd (cV 4) (cC (.int 1))) (cA gLen (aC (cV 0) aN)))) (sRet (cA gTupl (aC (c2 gAdd (cV 4) (cC (.int 2))) (aC (cC (.str "text behind return")) aN)))) sNil) (sRet (cC .none)))))
noncomputable def dueXS : VEnv → Out := (sSeq (sFz 3 (sFz 2 (sFz 5 (sSet 7 (cA (fun rs => if rs.length = 4 then F__law_step_fault (rs.map RV.arg) else .no) (aC (cV 5) (aC (cV 2) (aC (cV 3) (aC (cV 1) aN))))))))) (sSeq (sIf (cB (c2 gIsNot (cV 7) (cC .none))) (sFz 7 (sRet (cA gTupl (aC (c2 gAdd (cV 4) (cC (.int 1))) (aC (cV 7) aN))))) sNil) (sApp 1 (cA gTupl (aC (c2 gIx (cV 5) (cC (.int 3))) (aC (c2 gIx (cV 5) (cC (.int 2))) (aC (c2 gIx (cV 5) (cC (.int 4))) aN)))))))
noncomputable def dueXK : VEnv → Out := sIf (cB (c2 gEq (c2 gIx (cV 5) (cC (.int 0))) (cC (.str "return")))) dueXR dueXS
noncomputable def dueP : VEnv → Out := sSeq (sSet 5 (cM1 gSplit (c2 gIx (cV 0) (cV 4)) (cC (.str " ")))) (sSeq (sSet 6 (cC .none)) (sSeq (sIf (cB (c2 gEq (cA gLen (aC (cV 5) aN)) (cC (.int 2)))) (sSet 6 (cA (fun rs => if rs.length = 1 then F__law_number (rs.map RV.arg) else .no) (aC (c2 gIx (cV 5) (cC (.int 1))) aN))) sNil) (sIf (cB (c2 gEq (cV 4) (cC (.int 0)))) dueX0 (sIf (cB (c2 gEq (cV 4) (cC (.int 1)))) dueX1 dueXK))))
theorem due_eq : L0__law_due = dueP := rfl
structure LineW (ws : List Wd) : Prop where
  ok : ∀ w ∈ ws, w.ok
  ne : ws ≠ []
  few : ws.length ≤ 9
def lnT (ws : List Wd) : Str := lnW (ws.map Wd.str)
def wsD (ws : List Wd) : List PyData := ws.map fun w => .str w.str
section
variable {ws : List Wd} (h : LineW ws)
include h
theorem LineW.w7 : ∀ w ∈ ws.map Wd.str, Word7 w := fun w hw => by
  obtain ⟨x, hx, rfl⟩ := List.mem_map.mp hw
  exact Wd.w7 (h.ok x hx)
theorem LineW.split : Txt.split (lnT ws) " " = ws.map Wd.str := split_join (s := 32) (S := []) sp_l (by decide +kernel) (by have := h.ne; simpa using this) fun p hp hm => by
  have := (h.w7 p hp).vis 32 hm
  omega
theorem LineW.lenL : (lnT ws).cps.toList.length ≤ 72 := by
  unfold lnT
  rw [lnW_l]
  have := joinL_len [32] 7 ((ws.map Wd.str).map fun s => s.cps.toList) fun p hp => by
    obtain ⟨w, hw, rfl⟩ := List.mem_map.mp hp
    exact (h.w7 w hw).len
  rw [List.length_map, List.length_map] at this
  have h9 := h.few
  have e : ([32] : List Nat).length = 1 := rfl
  rw [e] at this
  omega
theorem LineW.len : (lnT ws).length ≤ 1000000 := by
  have := h.lenL
  rw [str_size]
  omega
theorem LineW.vis : ∀ c ∈ (lnT ws).cps.toList, 32 ≤ c ∧ c < 200 := by
  intro c hc
  unfold lnT at hc
  rw [lnW_l] at hc
  rcases joinL_mem _ _ hc with hc | ⟨p, hp, hc⟩
  · simp at hc; omega
  · obtain ⟨w, hw, rfl⟩ := List.mem_map.mp hp
    have := (h.w7 w hw).vis c hc
    omega
theorem LineW.gsplit : gSplit (lnT ws) (.d (.str " ")) = .ok (.ol (wsD ws)) := by
  rw [e_split, if_pos ⟨by decide +kernel, h.len⟩, h.split, List.map_map]
  rfl
end
def qAt : List Wd → Option Nat
  | [_, w] => w.nu
  | _ => none
theorem due_pre {ws : List Wd} (h : LineW ws) {LS : List PyData} {i : Nat} (hi : atI LS (i : Int) = some (.str (lnT ws))) (e1 e2 e3 e5 e6 e7 : Option RV) :
    L0__law_due [some (.d (.list LS)), e1, e2, e3, some (.d (.int (i : Int))), e5, e6, e7] = (if i = 0 then dueX0 else if i = 1 then dueX1 else dueXK) [some (.d (.list LS)), e1, e2, e3, some (.d (.int (i : Int))), some (.ol (wsD ws)), some (optR (qAt ws)), e7] := by
  have sp := h.gsplit
  have lw : (wsD ws).length = ws.length := List.length_map _
  have h9 := h.few
  have lz : ws.length ≤ 1000000 := by omega
  rw [due_eq]
  unfold dueP
  have fin : ∀ env : VEnv, (cB (c2 gEq (cV 4) (cC (.int 0))) env = .ok (decide (i = 0))) → (cB (c2 gEq (cV 4) (cC (.int 1))) env = .ok (decide (i = 1))) → (sIf (cB (c2 gEq (cV 4) (cC (.int 0)))) dueX0 (sIf (cB (c2 gEq (cV 4) (cC (.int 1)))) dueX1 dueXK)) env = (if i = 0 then dueX0 else if i = 1 then dueX1 else dueXK) env := fun env z0 z1 => by
    rw [e_if, z0]
    by_cases c : i = 0
    · rw [decide_eq_true c, if_pos c]; rfl
    · rw [decide_eq_false c, if_neg c]
      show (sIf _ _ _) env = _
      rw [e_if, z1]
      by_cases c1 : i = 1
      · rw [decide_eq_true c1, if_pos c1]; rfl
      · rw [decide_eq_false c1, if_neg c1]; rfl
  have z0 : ∀ (a b c d e f g : Option RV), cB (c2 gEq (cV 4) (cC (.int 0))) [a, b, c, d, some (.d (.int (i : Int))), e, f, g] = .ok (decide (i = 0)) := fun a b c d e f g => by
    have dd : decide ((i : Int) = 0) = decide (i = 0) := decide_eq_decide.mpr (by omega)
    simp only [VT, oS, List.getElem?_cons_zero, List.getElem?_cons_succ, List.set_cons_succ, List.set_cons_zero, List.length_cons, List.length_nil, Nat.reduceAdd, Nat.reduceLT, Nat.reduceLeDiff, Nat.reduceEqDiff, if_true, if_false, List.map_cons, List.map_nil, Option.map_some, reduceIte, Option.bind_some, Option.bind_none, List.append_nil, List.nil_append, List.cons_append, beq_self_eq_true, dd]
  have z1 : ∀ (a b c d e f g : Option RV), cB (c2 gEq (cV 4) (cC (.int 1))) [a, b, c, d, some (.d (.int (i : Int))), e, f, g] = .ok (decide (i = 1)) := fun a b c d e f g => by
    have dd : decide ((i : Int) = 1) = decide (i = 1) := decide_eq_decide.mpr (by omega)
    simp only [VT, oS, List.getElem?_cons_zero, List.getElem?_cons_succ, List.set_cons_succ, List.set_cons_zero, List.length_cons, List.length_nil, Nat.reduceAdd, Nat.reduceLT, Nat.reduceLeDiff, Nat.reduceEqDiff, if_true, if_false, List.map_cons, List.map_nil, Option.map_some, reduceIte, Option.bind_some, Option.bind_none, List.append_nil, List.nil_append, List.cons_append, beq_self_eq_true, dd]
  have tail := fun (q : RV) => fin [some (.d (.list LS)), e1, e2, e3, some (.d (.int (i : Int))), some (.ol (wsD ws)), some q, e7] (z0 ..) (z1 ..)
  rw [← tail]
  generalize (sIf (cB (c2 gEq (cV 4) (cC (.int 0)))) dueX0 (sIf (cB (c2 gEq (cV 4) (cC (.int 1)))) dueX1 dueXK)) = TT
  clear tail fin z0 z1
  generalize lnT ws = LT at *
  generalize hSP : (" " : Str) = SP at *
  match ws, h, lw, lz, sp with
  | [w0, w1], h, lw, lz, sp =>
    have nn := Wd.lnumber (h.ok w1 (by simp))
    have a1 : atI (wsD [w0, w1]) 1 = some (.str w1.str) := rfl
    have gl : gLen [.bl (wsD [w0, w1])] = .ok (.d (.int 2)) := rfl
    show _ = TT [some (.d (.list LS)), e1, e2, e3, some (.d (.int (i : Int))), some (.ol (wsD [w0, w1])), some (optR w1.nu), e7]
    generalize wsD [w0, w1] = WS at *
    generalize w1.str = W1 at *
    cases q : w1.nu with
    | none =>
      rw [q] at nn
      have nn : F__law_number [.d (.str W1)] = .ok (.d .none) := nn
      show _ = TT [some (.d (.list LS)), e1, e2, e3, some (.d (.int (i : Int))), some (.ol WS), some (.d .none), e7]
      simp only [VT, oS, List.getElem?_cons_zero, List.getElem?_cons_succ, List.set_cons_succ, List.set_cons_zero, List.length_cons, List.length_nil, Nat.reduceAdd, Nat.reduceLT, Nat.reduceLeDiff, Nat.reduceEqDiff, if_true, if_false, List.map_cons, List.map_nil, Option.map_some, reduceIte, Option.bind_some, Option.bind_none, List.append_nil, List.nil_append, List.cons_append, beq_self_eq_true, e_M1, hi, sp, a1, gl, nn]
    | some v =>
      rw [q] at nn
      have nn : F__law_number [.d (.str W1)] = .ok (.d (.int (v : Int))) := nn
      show _ = TT [some (.d (.list LS)), e1, e2, e3, some (.d (.int (i : Int))), some (.ol WS), some (.d (.int (v : Int))), e7]
      simp only [VT, oS, List.getElem?_cons_zero, List.getElem?_cons_succ, List.set_cons_succ, List.set_cons_zero, List.length_cons, List.length_nil, Nat.reduceAdd, Nat.reduceLT, Nat.reduceLeDiff, Nat.reduceEqDiff, if_true, if_false, List.map_cons, List.map_nil, Option.map_some, reduceIte, Option.bind_some, Option.bind_none, List.append_nil, List.nil_append, List.cons_append, beq_self_eq_true, e_M1, hi, sp, a1, gl, nn]
  | [], h, lw, lz, sp => exact absurd rfl h.ne
  | [w0], h, lw, lz, sp =>
    have gl : gLen [.bl (wsD [w0])] = .ok (.d (.int 1)) := rfl
    have d2 : decide ((1 : Int) = 2) = false := rfl
    show _ = TT [some (.d (.list LS)), e1, e2, e3, some (.d (.int (i : Int))), some (.ol (wsD [w0])), some (.d .none), e7]
    generalize wsD [w0] = WS at *
    simp only [VT, oS, List.getElem?_cons_zero, List.getElem?_cons_succ, List.set_cons_succ, List.set_cons_zero, List.length_cons, List.length_nil, Nat.reduceAdd, Nat.reduceLT, Nat.reduceLeDiff, Nat.reduceEqDiff, if_true, if_false, List.map_cons, List.map_nil, Option.map_some, reduceIte, Option.bind_some, Option.bind_none, List.append_nil, List.nil_append, List.cons_append, beq_self_eq_true, e_M1, hi, sp, gl, d2]
  | w0 :: w1 :: w2 :: wr, h, lw, lz, sp =>
    have gl : gLen [.bl (wsD (w0 :: w1 :: w2 :: wr))] = .ok (.d (.int ((w0 :: w1 :: w2 :: wr).length : Int))) := by rw [e_lenB, lw]
    have d2 : decide (((w0 :: w1 :: w2 :: wr).length : Int) = 2) = false := decide_eq_false (by simp only [List.length_cons]; omega)
    show _ = TT [some (.d (.list LS)), e1, e2, e3, some (.d (.int (i : Int))), some (.ol (wsD (w0 :: w1 :: w2 :: wr))), some (.d .none), e7]
    generalize wsD (w0 :: w1 :: w2 :: wr) = WS at *
    generalize (w0 :: w1 :: w2 :: wr).length = n at *
    simp only [VT, oS, List.getElem?_cons_zero, List.getElem?_cons_succ, List.set_cons_succ, List.set_cons_zero, List.length_cons, List.length_nil, Nat.reduceAdd, Nat.reduceLT, Nat.reduceLeDiff, Nat.reduceEqDiff, if_true, if_false, List.map_cons, List.map_nil, Option.map_some, reduceIte, Option.bind_some, Option.bind_none, List.append_nil, List.nil_append, List.cons_append, beq_self_eq_true, e_M1, hi, sp, gl, d2]
def numIn (K : Str) (lo hi : Nat) : List Wd → Option Nat
  | [w0, w1] => if w0.str = K then (match w1.nu with | some v => if lo ≤ v ∧ v ≤ hi then some v else none | none => none) else none
  | _ => none
def inRg (lo hi : Nat) : Option Nat → Option Nat
  | some v => if lo ≤ v ∧ v ≤ hi then some v else none
  | none => none
theorem numIn2 (K : Str) (lo hi : Nat) (w0 w1 : Wd) : numIn K lo hi [w0, w1] = if w0.str = K then inRg lo hi w1.nu else none := by
  show (if w0.str = K then (match w1.nu with | some v => if lo ≤ v ∧ v ≤ hi then some v else none | none => none) else none) = _
  cases w1.nu <;> rfl
theorem number_in_any {ws : List Wd} (h : LineW ws) {K : Str} (hK : PyData.strOk K = true) (lo hi : Nat) : F_number_in [.d (.str (lnT ws)), .d (.str K), .d (.int (lo : Int)), .d (.int (hi : Int))] = .ok (optR (numIn K lo hi ws)) := by
  have sp := h.gsplit
  have lw : (wsD ws).length = ws.length := List.length_map _
  have h9 := h.few
  have lz : ws.length ≤ 1000000 := by omega
  have s1 := sh_str hK
  have i1 : ∀ n : Int, isNone (.d (.int n)) = false := fun _ => rfl
  have i0 : isNone (.d .none) = true := rfl
  show (B_number_in [some (.d (.str (lnT ws))), some (.d (.str K)), some (.d (.int (lo : Int))), some (.d (.int (hi : Int))), none, none]).fin = _
  unfold B_number_in
  generalize lnT ws = LT at *
  generalize hSP : (" " : Str) = SP at *
  match ws, h, lw, lz, sp with
  | [], h, lw, lz, sp => exact absurd rfl h.ne
  | [w0], h, lw, lz, sp =>
    have gl : gLen [.bl (wsD [w0])] = .ok (.d (.int 1)) := rfl
    have d2 : decide ((1 : Int) = 2) = false := rfl
    show _ = Rs.ok (RV.d .none)
    generalize wsD [w0] = WS at *
    simp only [VT, oS, List.getElem?_cons_zero, List.getElem?_cons_succ, List.set_cons_succ, List.set_cons_zero, List.length_cons, List.length_nil, Nat.reduceAdd, Nat.reduceLT, Nat.reduceLeDiff, Nat.reduceEqDiff, if_true, if_false, List.map_cons, List.map_nil, Option.map_some, reduceIte, Option.bind_some, Option.bind_none, List.append_nil, List.nil_append, List.cons_append, beq_self_eq_true, e_M1, sp, gl, d2]
  | w0 :: w1 :: w2 :: wr, h, lw, lz, sp =>
    have gl : gLen [.bl (wsD (w0 :: w1 :: w2 :: wr))] = .ok (.d (.int ((w0 :: w1 :: w2 :: wr).length : Int))) := by rw [e_lenB, lw]
    have d2 : decide (((w0 :: w1 :: w2 :: wr).length : Int) = 2) = false := decide_eq_false (by simp only [List.length_cons]; omega)
    show _ = Rs.ok (RV.d .none)
    generalize wsD (w0 :: w1 :: w2 :: wr) = WS at *
    generalize (w0 :: w1 :: w2 :: wr).length = n at *
    simp only [VT, oS, List.getElem?_cons_zero, List.getElem?_cons_succ, List.set_cons_succ, List.set_cons_zero, List.length_cons, List.length_nil, Nat.reduceAdd, Nat.reduceLT, Nat.reduceLeDiff, Nat.reduceEqDiff, if_true, if_false, List.map_cons, List.map_nil, Option.map_some, reduceIte, Option.bind_some, Option.bind_none, List.append_nil, List.nil_append, List.cons_append, beq_self_eq_true, e_M1, sp, gl, d2]
  | [w0, w1], h, lw, lz, sp =>
    have nn := Wd.number (h.ok w1 (by simp))
    have s0 := (Wd.w7 (h.ok w0 (by simp))).sh
    have a0 : atI (wsD [w0, w1]) 0 = some (.str w0.str) := rfl
    have a1 : atI (wsD [w0, w1]) 1 = some (.str w1.str) := rfl
    have gl : gLen [.bl (wsD [w0, w1])] = .ok (.d (.int 2)) := rfl
    have ev := eqv_str w0.str K
    rw [numIn2]
    generalize wsD [w0, w1] = WS at *
    generalize w0.str = W0 at *
    generalize w1.str = W1 at *
    by_cases c : W0 = K
    · rw [decide_eq_true c] at ev
      rw [if_pos c]
      cases q : w1.nu with
      | none =>
        rw [q] at nn
        have nn : F_number_of [.d (.str W1)] = .ok (.d .none) := nn
        show _ = Rs.ok (RV.d .none)
        simp only [VT, oS, List.getElem?_cons_zero, List.getElem?_cons_succ, List.set_cons_succ, List.set_cons_zero, List.length_cons, List.length_nil, Nat.reduceAdd, Nat.reduceLT, Nat.reduceLeDiff, Nat.reduceEqDiff, if_true, if_false, List.map_cons, List.map_nil, Option.map_some, reduceIte, Option.bind_some, Option.bind_none, List.append_nil, List.nil_append, List.cons_append, beq_self_eq_true, e_M1, sp, gl, a0, a1, s0, s1, ev, nn, i0]
      | some v =>
        rw [q] at nn
        have nn : F_number_of [.d (.str W1)] = .ok (.d (.int (v : Int))) := nn
        by_cases c1 : lo ≤ v ∧ v ≤ hi
        · show _ = Rs.ok (optR (if lo ≤ v ∧ v ≤ hi then some v else none))
          rw [if_pos c1]
          show _ = Rs.ok (RV.d (.int (v : Int)))
          have d1 : decide ((v : Int) < (lo : Int)) = false := decide_eq_false (by omega)
          have d2 : decide ((v : Int) > (hi : Int)) = false := decide_eq_false (by omega)
          simp only [VT, oS, List.getElem?_cons_zero, List.getElem?_cons_succ, List.set_cons_succ, List.set_cons_zero, List.length_cons, List.length_nil, Nat.reduceAdd, Nat.reduceLT, Nat.reduceLeDiff, Nat.reduceEqDiff, if_true, if_false, List.map_cons, List.map_nil, Option.map_some, reduceIte, Option.bind_some, Option.bind_none, List.append_nil, List.nil_append, List.cons_append, beq_self_eq_true, e_M1, sp, gl, a0, a1, s0, s1, ev, nn, i1, d1, d2]
        · show _ = Rs.ok (optR (if lo ≤ v ∧ v ≤ hi then some v else none))
          rw [if_neg c1]
          show _ = Rs.ok (RV.d .none)
          by_cases c2 : v < lo
          · have d1 : decide ((v : Int) < (lo : Int)) = true := decide_eq_true (by omega)
            simp only [VT, oS, List.getElem?_cons_zero, List.getElem?_cons_succ, List.set_cons_succ, List.set_cons_zero, List.length_cons, List.length_nil, Nat.reduceAdd, Nat.reduceLT, Nat.reduceLeDiff, Nat.reduceEqDiff, if_true, if_false, List.map_cons, List.map_nil, Option.map_some, reduceIte, Option.bind_some, Option.bind_none, List.append_nil, List.nil_append, List.cons_append, beq_self_eq_true, e_M1, sp, gl, a0, a1, s0, s1, ev, nn, i1, d1]
          · have d1 : decide ((v : Int) < (lo : Int)) = false := decide_eq_false (by omega)
            have d2 : decide ((v : Int) > (hi : Int)) = true := decide_eq_true (by omega)
            simp only [VT, oS, List.getElem?_cons_zero, List.getElem?_cons_succ, List.set_cons_succ, List.set_cons_zero, List.length_cons, List.length_nil, Nat.reduceAdd, Nat.reduceLT, Nat.reduceLeDiff, Nat.reduceEqDiff, if_true, if_false, List.map_cons, List.map_nil, Option.map_some, reduceIte, Option.bind_some, Option.bind_none, List.append_nil, List.nil_append, List.cons_append, beq_self_eq_true, e_M1, sp, gl, a0, a1, s0, s1, ev, nn, i1, d1, d2]
    · rw [decide_eq_false c] at ev
      rw [if_neg c]
      show _ = Rs.ok (RV.d .none)
      simp only [VT, oS, List.getElem?_cons_zero, List.getElem?_cons_succ, List.set_cons_succ, List.set_cons_zero, List.length_cons, List.length_nil, Nat.reduceAdd, Nat.reduceLT, Nat.reduceLeDiff, Nat.reduceEqDiff, if_true, if_false, List.map_cons, List.map_nil, Option.map_some, reduceIte, Option.bind_some, Option.bind_none, List.append_nil, List.nil_append, List.cons_append, beq_self_eq_true, e_M1, sp, gl, a0, s0, s1, ev]
theorem wsD_at0 {ws : List Wd} (h : LineW ws) : ∃ w, w.ok ∧ ws.head? = some w ∧ atI (wsD ws) 0 = some (.str w.str) := by
  match ws, h with
  | [], h => exact absurd rfl h.ne
  | w :: wr, h => exact ⟨w, h.ok w (by simp), rfl, atI_zero ..⟩
theorem due0 {ws : List Wd} (h : LineW ws) (e0 e1 e2 e3 e4 e7 : Option RV) :
    (numIn "mod" 2 1000 ws = none → dueX0 [e0, e1, e2, e3, e4, some (.ol (wsD ws)), some (optR (qAt ws)), e7] = .rt (.d (.tuple [.int 1, .str "expected mod"]))) ∧
    (∀ v, numIn "mod" 2 1000 ws = some v → dueX0 [e0, e1, e2, e3, e4, some (.ol (wsD ws)), some (optR (qAt ws)), e7] = .nx [e0, e1, some (.d (.int (v : Int))), e3, e4, some (.ol (wsD ws)), some (.d (.int (v : Int))), e7]) := by
  obtain ⟨w, hw, hh, a0⟩ := wsD_at0 h
  have s0 := (Wd.w7 hw).sh
  have s1 := sh_str (show PyData.strOk "mod" = true by decide +kernel)
  have i1 : ∀ n : Int, isNone (.d (.int n)) = false := fun _ => rfl
  have i0 : isNone (.d .none) = true := rfl
  have ev := eqv_str w.str "mod"
  by_cases c : w.str = "mod"
  · rw [decide_eq_true c] at ev
    cases q : qAt ws with
    | none =>
      have e : numIn "mod" 2 1000 ws = none := by
        match ws, q, hh with
        | [w0, w1], q, hh =>
          have q : w1.nu = none := q
          rw [numIn2, q]
          split <;> rfl
        | [], q, hh => rfl
        | [w0], q, hh => rfl
        | _ :: _ :: _ :: _, q, hh => rfl
      rw [e]
      refine ⟨fun _ => ?_, fun v z => by cases z⟩
      show dueX0 [e0, e1, e2, e3, e4, some (.ol (wsD ws)), some (.d .none), e7] = _
      unfold dueX0
      generalize wsD ws = WS at *
      generalize w.str = W at *
      simp only [VT, oS, List.getElem?_cons_zero, List.getElem?_cons_succ, List.set_cons_succ, List.set_cons_zero, List.length_cons, List.length_nil, Nat.reduceAdd, Nat.reduceLT, Nat.reduceLeDiff, Nat.reduceEqDiff, if_true, if_false, List.map_cons, List.map_nil, Option.map_some, reduceIte, Option.bind_some, Option.bind_none, List.append_nil, List.nil_append, List.cons_append, beq_self_eq_true, a0, s0, s1, ev, i0]
    | some v =>
      have e : numIn "mod" 2 1000 ws = if 2 ≤ v ∧ v ≤ 1000 then some v else none := by
        match ws, q, hh with
        | [w0, w1], q, hh =>
          cases hh
          have q : w1.nu = some v := q
          rw [numIn2, if_pos c, q]
          rfl
        | [], q, hh => cases q
        | [w0], q, hh => cases q
        | _ :: _ :: _ :: _, q, hh => cases q
      rw [e]
      by_cases c1 : 2 ≤ v ∧ v ≤ 1000
      · rw [if_pos c1]
        refine ⟨fun z => (by cases z), fun v' z => ?_⟩
        cases z
        have d1 : decide ((2 : Int) ≤ (v : Int)) = true := decide_eq_true (by omega)
        have d2 : decide ((v : Int) ≤ 1000) = true := decide_eq_true (by omega)
        show dueX0 [e0, e1, e2, e3, e4, some (.ol (wsD ws)), some (.d (.int (v : Int))), e7] = _
        unfold dueX0
        generalize wsD ws = WS at *
        generalize w.str = W at *
        simp only [VT, oS, List.getElem?_cons_zero, List.getElem?_cons_succ, List.set_cons_succ, List.set_cons_zero, List.length_cons, List.length_nil, Nat.reduceAdd, Nat.reduceLT, Nat.reduceLeDiff, Nat.reduceEqDiff, if_true, if_false, List.map_cons, List.map_nil, Option.map_some, reduceIte, Option.bind_some, Option.bind_none, List.append_nil, List.nil_append, List.cons_append, beq_self_eq_true, a0, s0, s1, ev, i1, d1, d2]
      · rw [if_neg c1]
        refine ⟨fun _ => ?_, fun v' z => (by cases z)⟩
        show dueX0 [e0, e1, e2, e3, e4, some (.ol (wsD ws)), some (.d (.int (v : Int))), e7] = _
        by_cases c2 : 2 ≤ v
        · have d1 : decide ((2 : Int) ≤ (v : Int)) = true := decide_eq_true (by omega)
          have d2 : decide ((v : Int) ≤ 1000) = false := decide_eq_false (by omega)
          unfold dueX0
          generalize wsD ws = WS at *
          generalize w.str = W at *
          simp only [VT, oS, List.getElem?_cons_zero, List.getElem?_cons_succ, List.set_cons_succ, List.set_cons_zero, List.length_cons, List.length_nil, Nat.reduceAdd, Nat.reduceLT, Nat.reduceLeDiff, Nat.reduceEqDiff, if_true, if_false, List.map_cons, List.map_nil, Option.map_some, reduceIte, Option.bind_some, Option.bind_none, List.append_nil, List.nil_append, List.cons_append, beq_self_eq_true, a0, s0, s1, ev, i1, d1, d2]
        · have d1 : decide ((2 : Int) ≤ (v : Int)) = false := decide_eq_false (by omega)
          unfold dueX0
          generalize wsD ws = WS at *
          generalize w.str = W at *
          simp only [VT, oS, List.getElem?_cons_zero, List.getElem?_cons_succ, List.set_cons_succ, List.set_cons_zero, List.length_cons, List.length_nil, Nat.reduceAdd, Nat.reduceLT, Nat.reduceLeDiff, Nat.reduceEqDiff, if_true, if_false, List.map_cons, List.map_nil, Option.map_some, reduceIte, Option.bind_some, Option.bind_none, List.append_nil, List.nil_append, List.cons_append, beq_self_eq_true, a0, s0, s1, ev, i1, d1]
  · rw [decide_eq_false c] at ev
    have e : numIn "mod" 2 1000 ws = none := by
      match ws, hh with
      | [w0, w1], hh =>
        cases hh
        rw [numIn2, if_neg c]
      | [w0], hh => rfl
      | _ :: _ :: _ :: _, hh => rfl
    rw [e]
    refine ⟨fun _ => ?_, fun v z => by cases z⟩
    generalize hq : optR (qAt ws) = Q
    unfold dueX0
    generalize wsD ws = WS at *
    generalize w.str = W at *
    simp only [VT, oS, List.getElem?_cons_zero, List.getElem?_cons_succ, List.set_cons_succ, List.set_cons_zero, List.length_cons, List.length_nil, Nat.reduceAdd, Nat.reduceLT, Nat.reduceLeDiff, Nat.reduceEqDiff, if_true, if_false, List.map_cons, List.map_nil, Option.map_some, reduceIte, Option.bind_some, Option.bind_none, List.append_nil, List.nil_append, List.cons_append, beq_self_eq_true, a0, s0, s1, ev]
theorem take0_any {ws : List Wd} (h : LineW ws) (m n : Int) (ss : List Stp) (out : PyData) :
    (numIn "mod" 2 1000 ws = none → F_Reader_take [.ob true "Reader" (rdr m n ss out), .d (.int 0), .d (.str (lnT ws))] = .ok "Reader" (rdr m n ss out) (.str "expected mod")) ∧
    (∀ v, numIn "mod" 2 1000 ws = some v → F_Reader_take [.ob true "Reader" (rdr m n ss out), .d (.int 0), .d (.str (lnT ws))] = .ok "Reader" (rdr (v : Int) n ss out) .none) := by
  have p1 : F_number_in [.d (.str (lnT ws)), .d (.str "mod"), .d (.int 2), .d (.int 1000)] = .ok (optR (numIn "mod" 2 1000 ws)) := number_in_any h (K := "mod") (by decide +kernel) 2 1000
  have i1 : ∀ n : Int, isNone (.d (.int n)) = false := fun _ => rfl
  have i0 : isNone (.d .none) = true := rfl
  have tm := rdr_tm m n ss out
  have ln := rdr_len m n ss out
  have d1 : decide ((1 : Int) = 0) = false := by decide
  constructor
  · intro e
    rw [e] at p1
    have p1 : F_number_in [.d (.str (lnT ws)), .d (.str "mod"), .d (.int 2), .d (.int 1000)] = .ok (.d .none) := p1
    have ok : F_Reader_take_modulus [.ob true "Reader" (rdr m n ss out), .d (.str (lnT ws))] = .ok "Reader" (rdr m n ss out) (.str "expected mod") := by
      show (B_Reader_take_modulus [some (.ob true "Reader" (rdr m n ss out)), some (.d (.str (lnT ws))), none]).finM = _
      unfold B_Reader_take_modulus
      generalize rdr m n ss out = R1 at *
      simp only [VT, oS, List.getElem?_cons_zero, List.getElem?_cons_succ, List.set_cons_succ, List.set_cons_zero, List.length_cons, List.length_nil, Nat.reduceAdd, Nat.reduceLT, Nat.reduceLeDiff, Nat.reduceEqDiff, if_true, if_false, List.map_cons, List.map_nil, Option.map_some, reduceIte, Option.bind_some, Option.bind_none, List.append_nil, List.nil_append, List.cons_append, beq_self_eq_true, e_fldS, e_fld, e_obO, e_obB, e_fvd, e_fvl, e_fvF, e_toD, e_toL, e_retS, e_rmO, e_finM, e_finN, e_prop, e_okR, e_M, e_setM, e_appT, e_arO, e_boO, e_mCall, e_MF, e_plainD, e_plainO, e_putob, e_pbD, e_pbB, e_mkO, e_MP, e_fapp, e_fvO, e_dropM, e_ifM, e_retM, e_retNS, e_m2, e_mB, e_mPT, e_mNot, e_mOr, e_nbo, Out.then_rm, MO.out_ok, MO.out_ex, MO.bind_ok, Rs.mo_ok, Option.map_some, and_self, if_true, true_and, and_true, List.all_cons, List.all_nil, Bool.and_true, putFV_nil, p1, i0]
    show (B_Reader_take [some (.ob true "Reader" (rdr m n ss out)), some (.d (.int 0)), some (.d (.str (lnT ws))), none]).finM = _
    unfold B_Reader_take
    generalize rdr m n ss out = R1 at *
    simp only [VT, oS, List.getElem?_cons_zero, List.getElem?_cons_succ, List.set_cons_succ, List.set_cons_zero, List.length_cons, List.length_nil, Nat.reduceAdd, Nat.reduceLT, Nat.reduceLeDiff, Nat.reduceEqDiff, if_true, if_false, List.map_cons, List.map_nil, Option.map_some, reduceIte, Option.bind_some, Option.bind_none, List.append_nil, List.nil_append, List.cons_append, beq_self_eq_true, e_fldS, e_fld, e_obO, e_obB, e_fvd, e_fvl, e_fvF, e_toD, e_toL, e_retS, e_rmO, e_finM, e_finN, e_prop, e_okR, e_M, e_setM, e_appT, e_arO, e_boO, e_mCall, e_MF, e_plainD, e_plainO, e_putob, e_pbD, e_pbB, e_mkO, e_MP, e_fapp, e_fvO, e_dropM, e_ifM, e_retM, e_retNS, e_m2, e_mB, e_mPT, e_mNot, e_mOr, e_nbo, Out.then_rm, MO.out_ok, MO.out_ex, MO.bind_ok, Rs.mo_ok, Option.map_some, and_self, if_true, true_and, and_true, List.all_cons, List.all_nil, Bool.and_true, putFV_nil, tm, ok, d1, RV.isN]
  · intro v e
    rw [e] at p1
    have p1 : F_number_in [.d (.str (lnT ws)), .d (.str "mod"), .d (.int 2), .d (.int 1000)] = .ok (.d (.int (v : Int))) := p1
    have pu := rdr_pm m n ss out (v : Int)
    have ok : F_Reader_take_modulus [.ob true "Reader" (rdr m n ss out), .d (.str (lnT ws))] = .ok "Reader" (rdr (v : Int) n ss out) .none := by
      show (B_Reader_take_modulus [some (.ob true "Reader" (rdr m n ss out)), some (.d (.str (lnT ws))), none]).finM = _
      unfold B_Reader_take_modulus
      generalize rdr (v : Int) n ss out = R2 at *
      generalize rdr m n ss out = R1 at *
      simp only [VT, oS, List.getElem?_cons_zero, List.getElem?_cons_succ, List.set_cons_succ, List.set_cons_zero, List.length_cons, List.length_nil, Nat.reduceAdd, Nat.reduceLT, Nat.reduceLeDiff, Nat.reduceEqDiff, if_true, if_false, List.map_cons, List.map_nil, Option.map_some, reduceIte, Option.bind_some, Option.bind_none, List.append_nil, List.nil_append, List.cons_append, beq_self_eq_true, e_fldS, e_fld, e_obO, e_obB, e_fvd, e_fvl, e_fvF, e_toD, e_toL, e_retS, e_rmO, e_finM, e_finN, e_prop, e_okR, e_M, e_setM, e_appT, e_arO, e_boO, e_mCall, e_MF, e_plainD, e_plainO, e_putob, e_pbD, e_pbB, e_mkO, e_MP, e_fapp, e_fvO, e_dropM, e_ifM, e_retM, e_retNS, e_m2, e_mB, e_mPT, e_mNot, e_mOr, e_nbo, Out.then_rm, MO.out_ok, MO.out_ex, MO.bind_ok, Rs.mo_ok, Option.map_some, and_self, if_true, true_and, and_true, List.all_cons, List.all_nil, Bool.and_true, putFV_nil, p1, i1, pu, ln]
    show (B_Reader_take [some (.ob true "Reader" (rdr m n ss out)), some (.d (.int 0)), some (.d (.str (lnT ws))), none]).finM = _
    unfold B_Reader_take
    generalize rdr (v : Int) n ss out = R2 at *
    generalize rdr m n ss out = R1 at *
    simp only [VT, oS, List.getElem?_cons_zero, List.getElem?_cons_succ, List.set_cons_succ, List.set_cons_zero, List.length_cons, List.length_nil, Nat.reduceAdd, Nat.reduceLT, Nat.reduceLeDiff, Nat.reduceEqDiff, if_true, if_false, List.map_cons, List.map_nil, Option.map_some, reduceIte, Option.bind_some, Option.bind_none, List.append_nil, List.nil_append, List.cons_append, beq_self_eq_true, e_fldS, e_fld, e_obO, e_obB, e_fvd, e_fvl, e_fvF, e_toD, e_toL, e_retS, e_rmO, e_finM, e_finN, e_prop, e_okR, e_M, e_setM, e_appT, e_arO, e_boO, e_mCall, e_MF, e_plainD, e_plainO, e_putob, e_pbD, e_pbB, e_mkO, e_MP, e_fapp, e_fvO, e_dropM, e_ifM, e_retM, e_retNS, e_m2, e_mB, e_mPT, e_mNot, e_mOr, e_nbo, Out.then_rm, MO.out_ok, MO.out_ex, MO.bind_ok, Rs.mo_ok, Option.map_some, and_self, if_true, true_and, and_true, List.all_cons, List.all_nil, Bool.and_true, putFV_nil, tm, ok, d1, RV.isN]
theorem due1 {ws : List Wd} (h : LineW ws) (e0 e1 e2 e3 e4 e7 : Option RV) :
    (numIn "inputs" 1 6 ws = none → dueX1 [e0, e1, e2, e3, e4, some (.ol (wsD ws)), some (optR (qAt ws)), e7] = .rt (.d (.tuple [.int 2, .str "expected inputs"]))) ∧
    (∀ v, numIn "inputs" 1 6 ws = some v → dueX1 [e0, e1, e2, e3, e4, some (.ol (wsD ws)), some (optR (qAt ws)), e7] = .nx [e0, e1, e2, some (.d (.int (v : Int))), e4, some (.ol (wsD ws)), some (.d (.int (v : Int))), e7]) := by
  obtain ⟨w, hw, hh, a0⟩ := wsD_at0 h
  have s0 := (Wd.w7 hw).sh
  have s1 := sh_str (show PyData.strOk "inputs" = true by decide +kernel)
  have i1 : ∀ n : Int, isNone (.d (.int n)) = false := fun _ => rfl
  have i0 : isNone (.d .none) = true := rfl
  have ev := eqv_str w.str "inputs"
  by_cases c : w.str = "inputs"
  · rw [decide_eq_true c] at ev
    cases q : qAt ws with
    | none =>
      have e : numIn "inputs" 1 6 ws = none := by
        match ws, q, hh with
        | [w0, w1], q, hh =>
          have q : w1.nu = none := q
          rw [numIn2, q]
          split <;> rfl
        | [], q, hh => rfl
        | [w0], q, hh => rfl
        | _ :: _ :: _ :: _, q, hh => rfl
      rw [e]
      refine ⟨fun _ => ?_, fun v z => by cases z⟩
      show dueX1 [e0, e1, e2, e3, e4, some (.ol (wsD ws)), some (.d .none), e7] = _
      unfold dueX1
      generalize wsD ws = WS at *
      generalize w.str = W at *
      simp only [VT, oS, List.getElem?_cons_zero, List.getElem?_cons_succ, List.set_cons_succ, List.set_cons_zero, List.length_cons, List.length_nil, Nat.reduceAdd, Nat.reduceLT, Nat.reduceLeDiff, Nat.reduceEqDiff, if_true, if_false, List.map_cons, List.map_nil, Option.map_some, reduceIte, Option.bind_some, Option.bind_none, List.append_nil, List.nil_append, List.cons_append, beq_self_eq_true, a0, s0, s1, ev, i0]
    | some v =>
      have e : numIn "inputs" 1 6 ws = if 1 ≤ v ∧ v ≤ 6 then some v else none := by
        match ws, q, hh with
        | [w0, w1], q, hh =>
          cases hh
          have q : w1.nu = some v := q
          rw [numIn2, if_pos c, q]
          rfl
        | [], q, hh => cases q
        | [w0], q, hh => cases q
        | _ :: _ :: _ :: _, q, hh => cases q
      rw [e]
      by_cases c1 : 1 ≤ v ∧ v ≤ 6
      · rw [if_pos c1]
        refine ⟨fun z => (by cases z), fun v' z => ?_⟩
        cases z
        have d1 : decide ((1 : Int) ≤ (v : Int)) = true := decide_eq_true (by omega)
        have d2 : decide ((v : Int) ≤ 6) = true := decide_eq_true (by omega)
        show dueX1 [e0, e1, e2, e3, e4, some (.ol (wsD ws)), some (.d (.int (v : Int))), e7] = _
        unfold dueX1
        generalize wsD ws = WS at *
        generalize w.str = W at *
        simp only [VT, oS, List.getElem?_cons_zero, List.getElem?_cons_succ, List.set_cons_succ, List.set_cons_zero, List.length_cons, List.length_nil, Nat.reduceAdd, Nat.reduceLT, Nat.reduceLeDiff, Nat.reduceEqDiff, if_true, if_false, List.map_cons, List.map_nil, Option.map_some, reduceIte, Option.bind_some, Option.bind_none, List.append_nil, List.nil_append, List.cons_append, beq_self_eq_true, a0, s0, s1, ev, i1, d1, d2]
      · rw [if_neg c1]
        refine ⟨fun _ => ?_, fun v' z => (by cases z)⟩
        show dueX1 [e0, e1, e2, e3, e4, some (.ol (wsD ws)), some (.d (.int (v : Int))), e7] = _
        by_cases c2 : 1 ≤ v
        · have d1 : decide ((1 : Int) ≤ (v : Int)) = true := decide_eq_true (by omega)
          have d2 : decide ((v : Int) ≤ 6) = false := decide_eq_false (by omega)
          unfold dueX1
          generalize wsD ws = WS at *
          generalize w.str = W at *
          simp only [VT, oS, List.getElem?_cons_zero, List.getElem?_cons_succ, List.set_cons_succ, List.set_cons_zero, List.length_cons, List.length_nil, Nat.reduceAdd, Nat.reduceLT, Nat.reduceLeDiff, Nat.reduceEqDiff, if_true, if_false, List.map_cons, List.map_nil, Option.map_some, reduceIte, Option.bind_some, Option.bind_none, List.append_nil, List.nil_append, List.cons_append, beq_self_eq_true, a0, s0, s1, ev, i1, d1, d2]
        · have d1 : decide ((1 : Int) ≤ (v : Int)) = false := decide_eq_false (by omega)
          unfold dueX1
          generalize wsD ws = WS at *
          generalize w.str = W at *
          simp only [VT, oS, List.getElem?_cons_zero, List.getElem?_cons_succ, List.set_cons_succ, List.set_cons_zero, List.length_cons, List.length_nil, Nat.reduceAdd, Nat.reduceLT, Nat.reduceLeDiff, Nat.reduceEqDiff, if_true, if_false, List.map_cons, List.map_nil, Option.map_some, reduceIte, Option.bind_some, Option.bind_none, List.append_nil, List.nil_append, List.cons_append, beq_self_eq_true, a0, s0, s1, ev, i1, d1]
  · rw [decide_eq_false c] at ev
    have e : numIn "inputs" 1 6 ws = none := by
      match ws, hh with
      | [w0, w1], hh =>
        cases hh
        rw [numIn2, if_neg c]
      | [w0], hh => rfl
      | _ :: _ :: _ :: _, hh => rfl
    rw [e]
    refine ⟨fun _ => ?_, fun v z => by cases z⟩
    generalize hq : optR (qAt ws) = Q
    unfold dueX1
    generalize wsD ws = WS at *
    generalize w.str = W at *
    simp only [VT, oS, List.getElem?_cons_zero, List.getElem?_cons_succ, List.set_cons_succ, List.set_cons_zero, List.length_cons, List.length_nil, Nat.reduceAdd, Nat.reduceLT, Nat.reduceLeDiff, Nat.reduceEqDiff, if_true, if_false, List.map_cons, List.map_nil, Option.map_some, reduceIte, Option.bind_some, Option.bind_none, List.append_nil, List.nil_append, List.cons_append, beq_self_eq_true, a0, s0, s1, ev]
theorem take1_any {ws : List Wd} (h : LineW ws) (m n : Int) (ss : List Stp) (out : PyData) :
    (numIn "inputs" 1 6 ws = none → F_Reader_take [.ob true "Reader" (rdr m n ss out), .d (.int 1), .d (.str (lnT ws))] = .ok "Reader" (rdr m n ss out) (.str "expected inputs")) ∧
    (∀ v, numIn "inputs" 1 6 ws = some v → F_Reader_take [.ob true "Reader" (rdr m n ss out), .d (.int 1), .d (.str (lnT ws))] = .ok "Reader" (rdr m (v : Int) ss out) .none) := by
  have p1 : F_number_in [.d (.str (lnT ws)), .d (.str "inputs"), .d (.int 1), .d (.int 6)] = .ok (optR (numIn "inputs" 1 6 ws)) := number_in_any h (K := "inputs") (by decide +kernel) 1 6
  have i1 : ∀ n : Int, isNone (.d (.int n)) = false := fun _ => rfl
  have i0 : isNone (.d .none) = true := rfl
  have tm := rdr_ti m n ss out
  have ln := rdr_len m n ss out
  have d1 : decide ((1 : Int) = 0) = false := by decide
  constructor
  · intro e
    rw [e] at p1
    have p1 : F_number_in [.d (.str (lnT ws)), .d (.str "inputs"), .d (.int 1), .d (.int 6)] = .ok (.d .none) := p1
    have ok : F_Reader_take_inputs [.ob true "Reader" (rdr m n ss out), .d (.str (lnT ws))] = .ok "Reader" (rdr m n ss out) (.str "expected inputs") := by
      show (B_Reader_take_inputs [some (.ob true "Reader" (rdr m n ss out)), some (.d (.str (lnT ws))), none]).finM = _
      unfold B_Reader_take_inputs
      generalize rdr m n ss out = R1 at *
      simp only [VT, oS, List.getElem?_cons_zero, List.getElem?_cons_succ, List.set_cons_succ, List.set_cons_zero, List.length_cons, List.length_nil, Nat.reduceAdd, Nat.reduceLT, Nat.reduceLeDiff, Nat.reduceEqDiff, if_true, if_false, List.map_cons, List.map_nil, Option.map_some, reduceIte, Option.bind_some, Option.bind_none, List.append_nil, List.nil_append, List.cons_append, beq_self_eq_true, e_fldS, e_fld, e_obO, e_obB, e_fvd, e_fvl, e_fvF, e_toD, e_toL, e_retS, e_rmO, e_finM, e_finN, e_prop, e_okR, e_M, e_setM, e_appT, e_arO, e_boO, e_mCall, e_MF, e_plainD, e_plainO, e_putob, e_pbD, e_pbB, e_mkO, e_MP, e_fapp, e_fvO, e_dropM, e_ifM, e_retM, e_retNS, e_m2, e_mB, e_mPT, e_mNot, e_mOr, e_nbo, Out.then_rm, MO.out_ok, MO.out_ex, MO.bind_ok, Rs.mo_ok, Option.map_some, and_self, if_true, true_and, and_true, List.all_cons, List.all_nil, Bool.and_true, putFV_nil, p1, i0]
    show (B_Reader_take [some (.ob true "Reader" (rdr m n ss out)), some (.d (.int 1)), some (.d (.str (lnT ws))), none]).finM = _
    unfold B_Reader_take
    generalize rdr m n ss out = R1 at *
    simp only [VT, oS, List.getElem?_cons_zero, List.getElem?_cons_succ, List.set_cons_succ, List.set_cons_zero, List.length_cons, List.length_nil, Nat.reduceAdd, Nat.reduceLT, Nat.reduceLeDiff, Nat.reduceEqDiff, if_true, if_false, List.map_cons, List.map_nil, Option.map_some, reduceIte, Option.bind_some, Option.bind_none, List.append_nil, List.nil_append, List.cons_append, beq_self_eq_true, e_fldS, e_fld, e_obO, e_obB, e_fvd, e_fvl, e_fvF, e_toD, e_toL, e_retS, e_rmO, e_finM, e_finN, e_prop, e_okR, e_M, e_setM, e_appT, e_arO, e_boO, e_mCall, e_MF, e_plainD, e_plainO, e_putob, e_pbD, e_pbB, e_mkO, e_MP, e_fapp, e_fvO, e_dropM, e_ifM, e_retM, e_retNS, e_m2, e_mB, e_mPT, e_mNot, e_mOr, e_nbo, Out.then_rm, MO.out_ok, MO.out_ex, MO.bind_ok, Rs.mo_ok, Option.map_some, and_self, if_true, true_and, and_true, List.all_cons, List.all_nil, Bool.and_true, putFV_nil, tm, ok, d1, RV.isN]
  · intro v e
    rw [e] at p1
    have p1 : F_number_in [.d (.str (lnT ws)), .d (.str "inputs"), .d (.int 1), .d (.int 6)] = .ok (.d (.int (v : Int))) := p1
    have pu := rdr_pn m n ss out (v : Int)
    have ok : F_Reader_take_inputs [.ob true "Reader" (rdr m n ss out), .d (.str (lnT ws))] = .ok "Reader" (rdr m (v : Int) ss out) .none := by
      show (B_Reader_take_inputs [some (.ob true "Reader" (rdr m n ss out)), some (.d (.str (lnT ws))), none]).finM = _
      unfold B_Reader_take_inputs
      generalize rdr m (v : Int) ss out = R2 at *
      generalize rdr m n ss out = R1 at *
      simp only [VT, oS, List.getElem?_cons_zero, List.getElem?_cons_succ, List.set_cons_succ, List.set_cons_zero, List.length_cons, List.length_nil, Nat.reduceAdd, Nat.reduceLT, Nat.reduceLeDiff, Nat.reduceEqDiff, if_true, if_false, List.map_cons, List.map_nil, Option.map_some, reduceIte, Option.bind_some, Option.bind_none, List.append_nil, List.nil_append, List.cons_append, beq_self_eq_true, e_fldS, e_fld, e_obO, e_obB, e_fvd, e_fvl, e_fvF, e_toD, e_toL, e_retS, e_rmO, e_finM, e_finN, e_prop, e_okR, e_M, e_setM, e_appT, e_arO, e_boO, e_mCall, e_MF, e_plainD, e_plainO, e_putob, e_pbD, e_pbB, e_mkO, e_MP, e_fapp, e_fvO, e_dropM, e_ifM, e_retM, e_retNS, e_m2, e_mB, e_mPT, e_mNot, e_mOr, e_nbo, Out.then_rm, MO.out_ok, MO.out_ex, MO.bind_ok, Rs.mo_ok, Option.map_some, and_self, if_true, true_and, and_true, List.all_cons, List.all_nil, Bool.and_true, putFV_nil, p1, i1, pu, ln]
    show (B_Reader_take [some (.ob true "Reader" (rdr m n ss out)), some (.d (.int 1)), some (.d (.str (lnT ws))), none]).finM = _
    unfold B_Reader_take
    generalize rdr m (v : Int) ss out = R2 at *
    generalize rdr m n ss out = R1 at *
    simp only [VT, oS, List.getElem?_cons_zero, List.getElem?_cons_succ, List.set_cons_succ, List.set_cons_zero, List.length_cons, List.length_nil, Nat.reduceAdd, Nat.reduceLT, Nat.reduceLeDiff, Nat.reduceEqDiff, if_true, if_false, List.map_cons, List.map_nil, Option.map_some, reduceIte, Option.bind_some, Option.bind_none, List.append_nil, List.nil_append, List.cons_append, beq_self_eq_true, e_fldS, e_fld, e_obO, e_obB, e_fvd, e_fvl, e_fvF, e_toD, e_toL, e_retS, e_rmO, e_finM, e_finN, e_prop, e_okR, e_M, e_setM, e_appT, e_arO, e_boO, e_mCall, e_MF, e_plainD, e_plainO, e_putob, e_pbD, e_pbB, e_mkO, e_MP, e_fapp, e_fvO, e_dropM, e_ifM, e_retM, e_retNS, e_m2, e_mB, e_mPT, e_mNot, e_mOr, e_nbo, Out.then_rm, MO.out_ok, MO.out_ex, MO.bind_ok, Rs.mo_ok, Option.map_some, and_self, if_true, true_and, and_true, List.all_cons, List.all_nil, Bool.and_true, putFV_nil, tm, ok, d1, RV.isN]
theorem step_both {ws : List Wd} (h : LineW ws) (m n : Nat) (ss : List Stp) (h8 : ss.length ≤ 8) (out : PyData) : StepT m n ss (wsD ws) out := by
  by_cases c : ws.length = 5
  · match ws, h, c with
    | [w0, w1, w2, w3, w4], h, _ => exact step_five (h.ok w0 (by simp)) (h.ok w1 (by simp)) (h.ok w2 (by simp)) (h.ok w3 (by simp)) (h.ok w4 (by simp)) m n ss out h8
  · exact step_len m n ss out (by have := h.few; omega) c
theorem str_maps : ∀ {xs ys : List Str}, xs.map PyData.str = ys.map PyData.str → xs = ys
  | [], [], _ => rfl
  | [], _ :: _, h => by cases h
  | _ :: _, [], h => by cases h
  | x :: xs, y :: ys, h => by
    rw [List.map_cons, List.map_cons] at h
    injection h with h1 h2
    injection h1 with h1
    rw [h1, str_maps h2]
theorem wsD_map (ws : List Wd) : wsD ws = (ws.map Wd.str).map PyData.str := by unfold wsD; rw [List.map_map]; rfl
section
variable {ws : List Wd} (h : LineW ws) (m n : Nat) (ss : List Stp) (h8 : ss.length ≤ 8) {LS : List PyData} (hN : LS.length ≤ 1000) {i : Nat} (hi2 : 2 ≤ i)
include h h8 hN hi2
theorem line_s (hr : ∀ w, ws.head? = some w → w.str ≠ "return") (e7 : Option RV) (e6 : Option RV) (q6 : e6 = some (optR (qAt ws))) :
    (∃ msg : Str, PyData.strOk msg = true ∧ F_Reader_take [.ob true "Reader" (rdr (m : Int) (n : Int) ss .none), .d (.int (i : Int)), .d (.str (lnT ws))] = .ok "Reader" (rdr (m : Int) (n : Int) ss .none) (.str msg) ∧
      dueXK [some (.d (.list LS)), some (.ol (ss.map Stp.d)), some (.d (.int (m : Int))), some (.d (.int (n : Int))), some (.d (.int (i : Int))), some (.ol (wsD ws)), e6, e7] = .rt (.d (.tuple [.int ((i : Int) + 1), .str msg]))) ∨
    (∃ s : Stp, ws.map Wd.str = [lx "s" ss.length, "=", s.l.str, s.op.str, s.r.str] ∧ s.l.ok n ss.length m ∧ s.r.ok n ss.length m ∧ s.l.small ∧ s.r.small ∧ ss.length < 8 ∧ NewStp ss s ∧
      F_Reader_take [.ob true "Reader" (rdr (m : Int) (n : Int) ss .none), .d (.int (i : Int)), .d (.str (lnT ws))] = .ok "Reader" (rdr (m : Int) (n : Int) (ss ++ [s]) .none) .none ∧
      ∃ e5', dueXK [some (.d (.list LS)), some (.ol (ss.map Stp.d)), some (.d (.int (m : Int))), some (.d (.int (n : Int))), some (.d (.int (i : Int))), some (.ol (wsD ws)), e6, e7] = .nx [some (.d (.list LS)), some (.ol ((ss ++ [s]).map Stp.d)), some (.d (.int (m : Int))), some (.d (.int (n : Int))), some (.d (.int (i : Int))), e5', e6, some (.d .none)]) := by
  obtain ⟨w, hw, hh, a0⟩ := wsD_at0 h
  have s0 := (Wd.w7 hw).sh
  have s1 := sh_str ret_ok
  have i0 : isNone (.d .none) = true := rfl
  have ev := eqv_str w.str "return"
  rw [decide_eq_false (hr w hh)] at ev
  have sp := h.gsplit
  have tm := rdr_ts (m : Int) (n : Int) ss .none
  have ro := rdr_o (m : Int) (n : Int) ss .none
  have d1 : decide ((i : Int) = 0) = false := decide_eq_false (by omega)
  have d2 : decide ((i : Int) = 1) = false := decide_eq_false (by omega)
  rcases step_both h m n ss h8 .none with ⟨msg, mo, p1, p2⟩ | ⟨s, eL, sl, sr, ol, or', c8, hn, p2⟩
  · left
    have i1 : isNone (.d (.str msg)) = false := rfl
    refine ⟨msg, mo, ?_, ?_⟩
    · show (B_Reader_take [some (.ob true "Reader" (rdr (m : Int) (n : Int) ss .none)), some (.d (.int (i : Int))), some (.d (.str (lnT ws))), none]).finM = _
      unfold B_Reader_take
      generalize lnT ws = LT at *
      generalize wsD ws = SL at *
      generalize rdr (m : Int) (n : Int) ss .none = R1 at *
      generalize w.str = W0 at *
      generalize (" " : Str) = SP at *
      simp only [VT, oS, List.getElem?_cons_zero, List.getElem?_cons_succ, List.set_cons_succ, List.set_cons_zero, List.length_cons, List.length_nil, Nat.reduceAdd, Nat.reduceLT, Nat.reduceLeDiff, Nat.reduceEqDiff, if_true, if_false, List.map_cons, List.map_nil, Option.map_some, reduceIte, Option.bind_some, Option.bind_none, List.append_nil, List.nil_append, List.cons_append, beq_self_eq_true, e_fldS, e_fld, e_obO, e_obB, e_fvd, e_fvl, e_fvF, e_toD, e_toL, e_retS, e_rmO, e_finM, e_finN, e_prop, e_okR, e_M, e_setM, e_appT, e_arO, e_boO, e_mCall, e_MF, e_plainD, e_plainO, e_putob, e_pbD, e_pbB, e_mkO, e_MP, e_fapp, e_fvO, e_dropM, e_ifM, e_retM, e_retNS, e_m2, e_mB, e_mPT, e_mNot, e_mOr, e_nbo, Out.then_rm, MO.out_ok, MO.out_ex, MO.bind_ok, Rs.mo_ok, Option.map_some, and_self, if_true, true_and, and_true, List.all_cons, List.all_nil, Bool.and_true, putFV_nil, e_M1, tm, ro, i0, p1, d1, d2, sp, a0, s0, s1, ev, RV.isN]
    · rw [q6]
      generalize optR (qAt ws) = Q at *
      unfold dueXK dueXS
      generalize wsD ws = SL at *
      generalize ss.map Stp.d = SD at *
      generalize w.str = W0 at *
      simp only [VT, oS, List.getElem?_cons_zero, List.getElem?_cons_succ, List.set_cons_succ, List.set_cons_zero, List.length_cons, List.length_nil, Nat.reduceAdd, Nat.reduceLT, Nat.reduceLeDiff, Nat.reduceEqDiff, if_true, if_false, List.map_cons, List.map_nil, Option.map_some, reduceIte, Option.bind_some, Option.bind_none, List.append_nil, List.nil_append, List.cons_append, beq_self_eq_true, p2, i1, a0, s0, s1, ev]
  · right
    have mp : ws.map Wd.str = [lx "s" ss.length, "=", s.l.str, s.op.str, s.r.str] := str_maps (by rw [← wsD_map, eL]; rfl)
    refine ⟨s, mp, ol, or', sl, sr, c8, hn, take_s_ok s (by rw [h.split, ← wsD_map, eL]) h.len hi2 sl sr ol or' c8 hn, some (.d (.list (wsD ws))), ?_⟩
    have ll : (ss.map Stp.d).length = ss.length := List.length_map _
    have lz : ss.length ≤ 1000000 := by omega
    have a2 : atI (wsD ws) 2 = some (.str s.l.str) := by rw [eL]; rfl
    have a3 : atI (wsD ws) 3 = some (.str s.op.str) := by rw [eL]; rfl
    have a4 : atI (wsD ws) 4 = some (.str s.r.str) := by rw [eL]; rfl
    have ap : (ss ++ [s]).map Stp.d = ss.map Stp.d ++ [.tuple [.str s.op.str, .str s.l.str, .str s.r.str]] := by rw [List.map_append]; rfl
    rw [ap, q6]
    generalize optR (qAt ws) = Q at *
    unfold dueXK dueXS
    generalize wsD ws = SL at *
    generalize ss.map Stp.d = SD at *
    generalize w.str = W0 at *
    generalize s.l.str = WL at *
    generalize s.r.str = WR at *
    generalize s.op.str = WO at *
    simp only [VT, oS, List.getElem?_cons_zero, List.getElem?_cons_succ, List.set_cons_succ, List.set_cons_zero, List.length_cons, List.length_nil, Nat.reduceAdd, Nat.reduceLT, Nat.reduceLeDiff, Nat.reduceEqDiff, if_true, if_false, List.map_cons, List.map_nil, Option.map_some, reduceIte, Option.bind_some, Option.bind_none, List.append_nil, List.nil_append, List.cons_append, beq_self_eq_true, p2, i0, a0, s0, s1, ev, a2, a3, a4, ll, lz]
theorem line_r (hr : ∃ w, ws.head? = some w ∧ w.str = "return") (e7 : Option RV) (e6 : Option RV) (q6 : e6 = some (optR (qAt ws))) :
    (∃ msg : Str, PyData.strOk msg = true ∧ F_Reader_take [.ob true "Reader" (rdr (m : Int) (n : Int) ss .none), .d (.int (i : Int)), .d (.str (lnT ws))] = .ok "Reader" (rdr (m : Int) (n : Int) ss .none) (.str msg) ∧
      dueXK [some (.d (.list LS)), some (.ol (ss.map Stp.d)), some (.d (.int (m : Int))), some (.d (.int (n : Int))), some (.d (.int (i : Int))), some (.ol (wsD ws)), e6, e7] = .rt (.d (.tuple [.int ((i : Int) + 1), .str msg]))) ∨
    (∃ os : List Nat, ws.map Wd.str = ("return" : Str) :: os.map (lx "s") ∧ os.Pairwise (· < ·) ∧ (∀ o ∈ os, o < ss.length) ∧ os ≠ [] ∧ os.length ≤ 8 ∧
      F_Reader_take [.ob true "Reader" (rdr (m : Int) (n : Int) ss .none), .d (.int (i : Int)), .d (.str (lnT ws))] = .ok "Reader" (rdr (m : Int) (n : Int) ss (.tuple (os.map natI))) .none ∧
      dueXK [some (.d (.list LS)), some (.ol (ss.map Stp.d)), some (.d (.int (m : Int))), some (.d (.int (n : Int))), some (.d (.int (i : Int))), some (.ol (wsD ws)), e6, e7] = if i + 1 < LS.length then .rt (.d (.tuple [.int ((i : Int) + 2), .str "text behind return"])) else .rt (.d .none)) := by
  obtain ⟨w, hh, ew⟩ := hr
  obtain ⟨wr, rfl⟩ : ∃ wr, ws = w :: wr := by
    cases ws with
    | nil => cases hh
    | cons x xs => cases hh; exact ⟨xs, rfl⟩
  have a0 : atI (wsD (w :: wr)) 0 = some (.str "return") := by rw [← ew]; exact atI_zero ..
  have s1 := sh_str ret_ok
  have i0 : isNone (.d .none) = true := rfl
  have ev : PyData.eqv (.str "return") (.str "return") = true := by rw [eqv_str]; simp
  have sp := h.gsplit
  have tm := rdr_to (m : Int) (n : Int) ss .none
  have ro := rdr_o (m : Int) (n : Int) ss .none
  have d1 : decide ((i : Int) = 0) = false := decide_eq_false (by omega)
  have d2 : decide ((i : Int) = 1) = false := decide_eq_false (by omega)
  have cu : gSl (.d (.list (wsD (w :: wr)))) (some 1) none = .ok (.ol (wsD wr)) := by
    show Rs.ok (RV.ol (cutL (wsD (w :: wr)) (some 1) none)) = _
    rw [show (1 : Int) = ((1 : Nat) : Int) from rfl, cut_suf _ 1 (by unfold wsD; simp)]
    rfl
  have cu2 : gSl (.bl (wsD (w :: wr))) (some 1) none = .ok (.ol (wsD wr)) := cu
  have ll : (ss.map Stp.d).length = ss.length := List.length_map _
  have lz : ss.length ≤ 1000000 := by omega
  have lN : LS.length ≤ 1000000 := by omega
  rcases ret_both (fun x hx => h.ok x (List.mem_cons_of_mem _ hx)) (by have := h.few; rw [List.length_cons] at this; omega) m n ss h8 with ⟨msg, mo, p1, p2⟩ | ⟨os, eL, hu, hb, h0, ho, p2⟩
  · have p1 : F_Reader_take_outputs [.ob true "Reader" (rdr (m : Int) (n : Int) ss .none), .d (.list (wsD wr))] = .ok "Reader" (rdr (m : Int) (n : Int) ss .none) (.str msg) := p1
    have p2 : F__law_return_fault [.d (.list (wsD wr)), .d (.int (ss.length : Int))] = .ok (.d (.str msg)) := p2
    left
    have i1 : isNone (.d (.str msg)) = false := rfl
    refine ⟨msg, mo, ?_, ?_⟩
    · show (B_Reader_take [some (.ob true "Reader" (rdr (m : Int) (n : Int) ss .none)), some (.d (.int (i : Int))), some (.d (.str (lnT (w :: wr)))), none]).finM = _
      unfold B_Reader_take
      generalize lnT (w :: wr) = LT at *
      generalize wsD (w :: wr) = SL at *
      generalize wsD wr = SR at *
      generalize rdr (m : Int) (n : Int) ss .none = R1 at *
      generalize (" " : Str) = SP at *
      simp only [VT, oS, List.getElem?_cons_zero, List.getElem?_cons_succ, List.set_cons_succ, List.set_cons_zero, List.length_cons, List.length_nil, Nat.reduceAdd, Nat.reduceLT, Nat.reduceLeDiff, Nat.reduceEqDiff, if_true, if_false, List.map_cons, List.map_nil, Option.map_some, reduceIte, Option.bind_some, Option.bind_none, List.append_nil, List.nil_append, List.cons_append, beq_self_eq_true, e_fldS, e_fld, e_obO, e_obB, e_fvd, e_fvl, e_fvF, e_toD, e_toL, e_retS, e_rmO, e_finM, e_finN, e_prop, e_okR, e_M, e_setM, e_appT, e_arO, e_boO, e_mCall, e_MF, e_plainD, e_plainO, e_putob, e_pbD, e_pbB, e_mkO, e_MP, e_fapp, e_fvO, e_dropM, e_ifM, e_retM, e_retNS, e_m2, e_mB, e_mPT, e_mNot, e_mOr, e_nbo, Out.then_rm, MO.out_ok, MO.out_ex, MO.bind_ok, Rs.mo_ok, Option.map_some, and_self, if_true, true_and, and_true, List.all_cons, List.all_nil, Bool.and_true, putFV_nil, e_M1, tm, ro, i0, p1, d1, d2, sp, a0, s1, ev, cu, cu2, RV.isN]
    · rw [q6]
      generalize optR (qAt (w :: wr)) = Q at *
      unfold dueXK dueXR
      generalize wsD (w :: wr) = SL at *
      generalize wsD wr = SR at *
      generalize ss.map Stp.d = SD at *
      simp only [VT, oS, List.getElem?_cons_zero, List.getElem?_cons_succ, List.set_cons_succ, List.set_cons_zero, List.length_cons, List.length_nil, Nat.reduceAdd, Nat.reduceLT, Nat.reduceLeDiff, Nat.reduceEqDiff, if_true, if_false, List.map_cons, List.map_nil, Option.map_some, reduceIte, Option.bind_some, Option.bind_none, List.append_nil, List.nil_append, List.cons_append, beq_self_eq_true, p2, i1, a0, s1, ev, cu, cu2, ll, lz]
  · have p2 : F__law_return_fault [.d (.list (wsD wr)), .d (.int (ss.length : Int))] = .ok (.d .none) := p2
    right
    have mp : (w :: wr).map Wd.str = ("return" : Str) :: os.map (lx "s") := by
      rw [List.map_cons, ew]
      congr 1
      refine str_maps ?_
      rw [List.map_map, List.map_map]
      exact eL
    refine ⟨os, mp, hu, hb, h0, ho, take_r_ok (by rw [h.split, mp]) h.len hi2 hu hb h0 h8 ho, ?_⟩
    rw [q6]
    generalize optR (qAt (w :: wr)) = Q at *
    by_cases c : i + 1 < LS.length
    · have d3 : decide ((i : Int) + 1 < (LS.length : Int)) = true := decide_eq_true (by omega)
      rw [if_pos c]
      unfold dueXK dueXR
      generalize wsD (w :: wr) = SL at *
      generalize wsD wr = SR at *
      generalize ss.map Stp.d = SD at *
      simp only [VT, oS, List.getElem?_cons_zero, List.getElem?_cons_succ, List.set_cons_succ, List.set_cons_zero, List.length_cons, List.length_nil, Nat.reduceAdd, Nat.reduceLT, Nat.reduceLeDiff, Nat.reduceEqDiff, if_true, if_false, List.map_cons, List.map_nil, Option.map_some, reduceIte, Option.bind_some, Option.bind_none, List.append_nil, List.nil_append, List.cons_append, beq_self_eq_true, p2, i0, a0, s1, ev, cu, cu2, ll, lz, lN, d3]
    · have d3 : decide ((i : Int) + 1 < (LS.length : Int)) = false := decide_eq_false (by omega)
      rw [if_neg c]
      unfold dueXK dueXR
      generalize wsD (w :: wr) = SL at *
      generalize wsD wr = SR at *
      generalize ss.map Stp.d = SD at *
      simp only [VT, oS, List.getElem?_cons_zero, List.getElem?_cons_succ, List.set_cons_succ, List.set_cons_zero, List.length_cons, List.length_nil, Nat.reduceAdd, Nat.reduceLT, Nat.reduceLeDiff, Nat.reduceEqDiff, if_true, if_false, List.map_cons, List.map_nil, Option.map_some, reduceIte, Option.bind_some, Option.bind_none, List.append_nil, List.nil_append, List.cons_append, beq_self_eq_true, p2, i0, a0, s1, ev, cu, cu2, ll, lz, lN, d3]
end
theorem fldT : ∀ a b : PyData, fldD [(("what" : Str), 1), (("line" : Str), 0)] [a, b] = some [(("what" : Str), b), (("line" : Str), a)] := fun _ _ => rfl
def exT (line : Int) (msg : Str) : List (Str × PyData) := [("what", .str msg), ("line", .int line)]
section
variable {LS : List PyData} {i : Nat} {line : Str} {R R2 : List (Str × FV)} (hi : atI LS (i : Int) = some (.str line)) (tn : R.lookup ("take" : Str) = none) (e0 e4 e5 : Option RV) (me : Bool)
include hi tn
theorem rp_ok (tk : F_Reader_take [.ob true "Reader" R, .d (.int (i : Int)), .d (.str line)] = .ok "Reader" R2 .none) :
    L0_read_program [e0, some (.ol LS), some (.ob me "Reader" R), some (.d (.int (i : Int))), e4, e5] = .nx [e0, some (.ol LS), some (.ob me "Reader" R2), some (.d (.int (i : Int))), some (.d .none), e5] := by
  have i0 : isNone (.d .none) = true := rfl
  unfold L0_read_program
  simp only [VT, oS, List.getElem?_cons_zero, List.getElem?_cons_succ, List.set_cons_succ, List.set_cons_zero, List.length_cons, List.length_nil, Nat.reduceAdd, Nat.reduceLT, Nat.reduceLeDiff, Nat.reduceEqDiff, if_true, if_false, List.map_cons, List.map_nil, Option.map_some, reduceIte, Option.bind_some, Option.bind_none, List.append_nil, List.nil_append, List.cons_append, beq_self_eq_true, e_fldS, e_fld, e_obO, e_obB, e_fvd, e_fvl, e_fvF, e_toD, e_toL, e_retS, e_rmO, e_finM, e_finN, e_prop, e_okR, e_M, e_setM, e_appT, e_arO, e_boO, e_mCall, e_MF, e_plainD, e_plainO, e_putob, e_pbD, e_pbB, e_mkO, e_MP, e_fapp, e_fvO, e_dropM, e_ifM, e_retM, e_retNS, e_m2, e_mB, e_mPT, e_mNot, e_mOr, e_nbo, Out.then_rm, MO.out_ok, MO.out_ex, MO.bind_ok, Rs.mo_ok, Option.map_some, and_self, if_true, true_and, and_true, List.all_cons, List.all_nil, Bool.and_true, putFV_nil, hi, tk, tn, i0, RV.isN]
theorem rp_bad {msg : Str} (tk : F_Reader_take [.ob true "Reader" R, .d (.int (i : Int)), .d (.str line)] = .ok "Reader" R2 (.str msg)) :
    ∃ env', L0_read_program [e0, some (.ol LS), some (.ob me "Reader" R), some (.d (.int (i : Int))), e4, e5] = .ex 1 (exT ((i : Int) + 1) msg) env' := by
  have i0 : isNone (.d (.str msg)) = false := rfl
  have fl := fldT (.int ((i : Int) + 1)) (.str msg)
  refine ⟨[e0, some (.ol LS), some (.ob me "Reader" R2), some (.d (.int (i : Int))), some (.d (.str msg)), e5], ?_⟩
  unfold L0_read_program exT
  simp only [VT, oS, List.getElem?_cons_zero, List.getElem?_cons_succ, List.set_cons_succ, List.set_cons_zero, List.length_cons, List.length_nil, Nat.reduceAdd, Nat.reduceLT, Nat.reduceLeDiff, Nat.reduceEqDiff, if_true, if_false, List.map_cons, List.map_nil, Option.map_some, reduceIte, Option.bind_some, Option.bind_none, List.append_nil, List.nil_append, List.cons_append, beq_self_eq_true, e_fldS, e_fld, e_obO, e_obB, e_fvd, e_fvl, e_fvF, e_toD, e_toL, e_retS, e_rmO, e_finM, e_finN, e_prop, e_okR, e_M, e_setM, e_appT, e_arO, e_boO, e_mCall, e_MF, e_plainD, e_plainO, e_putob, e_pbD, e_pbB, e_mkO, e_MP, e_fapp, e_fvO, e_dropM, e_ifM, e_retM, e_retNS, e_m2, e_mB, e_mPT, e_mNot, e_mOr, e_nbo, Out.then_rm, MO.out_ok, MO.out_ex, MO.bind_ok, Rs.mo_ok, Option.map_some, and_self, if_true, true_and, and_true, List.all_cons, List.all_nil, Bool.and_true, putFV_nil, hi, tk, tn, i0, RV.isN, e_raise, fl, Out.then_ex]
end
theorem take_behind {m n : Int} {ss : List Stp} {xs : List PyData} {k : Nat} (hk : 2 ≤ k) {line : Str} : F_Reader_take [.ob true "Reader" (rdr m n ss (.tuple xs)), .d (.int (k : Int)), .d (.str line)] = .ok "Reader" (rdr m n ss (.tuple xs)) (.str "text behind return") := by
  have ro := rdr_o m n ss (.tuple xs)
  have i0 : isNone (.d (.tuple xs)) = false := rfl
  have d1 : decide ((k : Int) = 0) = false := decide_eq_false (by omega)
  have d2 : decide ((k : Int) = 1) = false := decide_eq_false (by omega)
  show (B_Reader_take [some (.ob true "Reader" (rdr m n ss (.tuple xs))), some (.d (.int (k : Int))), some (.d (.str line)), none]).finM = _
  unfold B_Reader_take
  generalize rdr m n ss (.tuple xs) = R1 at *
  simp only [VT, oS, List.getElem?_cons_zero, List.getElem?_cons_succ, List.set_cons_succ, List.set_cons_zero, List.length_cons, List.length_nil, Nat.reduceAdd, Nat.reduceLT, Nat.reduceLeDiff, Nat.reduceEqDiff, if_true, if_false, List.map_cons, List.map_nil, Option.map_some, reduceIte, Option.bind_some, Option.bind_none, List.append_nil, List.nil_append, List.cons_append, beq_self_eq_true, e_fldS, e_fld, e_obO, e_obB, e_fvd, e_fvl, e_fvF, e_toD, e_toL, e_retS, e_rmO, e_finM, e_finN, e_prop, e_okR, e_M, e_setM, e_appT, e_arO, e_boO, e_mCall, e_MF, e_plainD, e_plainO, e_putob, e_pbD, e_pbB, e_mkO, e_MP, e_fapp, e_fvO, e_dropM, e_ifM, e_retM, e_retNS, e_m2, e_mB, e_mPT, e_mNot, e_mOr, e_nbo, Out.then_rm, MO.out_ok, MO.out_ex, MO.bind_ok, Rs.mo_ok, Option.map_some, and_self, if_true, true_and, and_true, List.all_cons, List.all_nil, Bool.and_true, putFV_nil, ro, i0, d1, d2, RV.isN]
def lsD (ls : List (List Wd)) : List PyData := ls.map fun ws => .str (lnT ws)
theorem lsD_at {ls : List (List Wd)} {i : Nat} (h : i < ls.length) : atI (lsD ls) (i : Int) = some (.str (lnT ls[i])) := by
  unfold lsD
  rw [atI_lt (by omega) (by simpa using h)]
  simp [h]
theorem lsD_len (ls : List (List Wd)) : (lsD ls).length = ls.length := List.length_map _
structure HoldT (ls : List (List Wd)) (m n i : Nat) (ss : List Stp) : Prop where
  at_ : i = ss.length + 2
  pre : (ls.take i).map lnT = lnM m :: lnI n :: lnSs ss
  s8 : ss.length ≤ 8
  ok : StpsOk m n ss
  new : ∀ (k : Nat) (s : Stp), ss[k]? = some s → NewStp (ss.take k) s
def EndT (ls : List (List Wd)) (oL oR : Out) (e0 e5 : Option RV) (me : Bool) : Prop :=
  (∃ (line : Int) (msg : Str) (env' : VEnv), PyData.strOk msg = true ∧ oL = .rt (.d (.tuple [.int line, .str msg])) ∧ oR = .ex 1 (exT line msg) env') ∨
  (∃ (a b : Int) (ss' : List Stp) (e1 e2 e3 e4 e5' e6 e7 f3 f4 : Option RV), oL = .nx [some (.d (.list (lsD ls))), e1, e2, e3, e4, e5', e6, e7] ∧ oR = .nx [e0, some (.ol (lsD ls)), some (.ob me "Reader" (rdr a b ss' .none)), f3, f4, e5]) ∨
  (∃ (m n : Nat) (ss' : List Stp) (os : List Nat) (f3 f4 : Option RV), GoodT m n ss' os ∧ ls.map lnT = lns m n ss' os ∧ oL = .rt (.d .none) ∧ oR = .nx [e0, some (.ol (lsD ls)), some (.ob me "Reader" (rdr (m : Int) (n : Int) ss' (.tuple (os.map natI)))), f3, f4, e5])
theorem loop_k (ls : List (List Wd)) (hL : ∀ ws ∈ ls, LineW ws) (hN : ls.length ≤ 1000) (m n : Nat) (m2 : 2 ≤ m) (mh : m ≤ 1000) (n1 : 1 ≤ n) (nh : n ≤ 6) (e0 e5 : Option RV) (me : Bool) : ∀ (r i : Nat) (ss : List Stp) (f3 f4 g4 g5 g6 g7 : Option RV), i + r = ls.length → HoldT ls m n i ss →
    EndT ls (loopF (.nm 4) L0__law_due ((List.range' i r).map natI) [some (.d (.list (lsD ls))), some (.ol (ss.map Stp.d)), some (.d (.int (m : Int))), some (.d (.int (n : Int))), g4, g5, g6, g7])
      (loopF (.nm 3) L0_read_program ((List.range' i r).map natI) [e0, some (.ol (lsD ls)), some (.ob me "Reader" (rdr (m : Int) (n : Int) ss .none)), f3, f4, e5]) e0 e5 me
  | 0, i, ss, f3, f4, g4, g5, g6, g7, hr, H => .inr (.inl ⟨_, _, _, _, _, _, _, _, _, _, _, _, rfl, rfl⟩)
  | r + 1, i, ss, f3, f4, g4, g5, g6, g7, hr, H => by
    have hi : i < ls.length := by omega
    have hi2 : 2 ≤ i := by have := H.at_; omega
    have at_ := lsD_at hi
    have hW := hL ls[i] (List.getElem_mem hi)
    have hNd : (lsD ls).length ≤ 1000 := by rw [lsD_len]; exact hN
    rw [List.range'_succ, List.map_cons, loopF_cons, loopF_cons]
    have t1 : tgE (.nm 4) (natI i) [some (.d (.list (lsD ls))), some (.ol (ss.map Stp.d)), some (.d (.int (m : Int))), some (.d (.int (n : Int))), g4, g5, g6, g7] = some [some (.d (.list (lsD ls))), some (.ol (ss.map Stp.d)), some (.d (.int (m : Int))), some (.d (.int (n : Int))), some (.d (.int (i : Int))), g5, g6, g7] := rfl
    have t2 : tgE (.nm 3) (natI i) [e0, some (.ol (lsD ls)), some (.ob me "Reader" (rdr (m : Int) (n : Int) ss .none)), f3, f4, e5] = some [e0, some (.ol (lsD ls)), some (.ob me "Reader" (rdr (m : Int) (n : Int) ss .none)), some (.d (.int (i : Int))), f4, e5] := rfl
    rw [t1, t2]
    have pr := due_pre hW at_ (some (.ol (ss.map Stp.d))) (some (.d (.int (m : Int)))) (some (.d (.int (n : Int)))) g5 g6 g7
    rw [if_neg (by omega), if_neg (by omega)] at pr
    have tn := rdr_tk (m : Int) (n : Int) ss .none
    by_cases hr' : ∃ w, (ls[i]).head? = some w ∧ w.str = "return"
    · rcases line_r hW m n ss H.s8 hNd hi2 hr' g7 _ rfl with ⟨msg, mo, p1, p2⟩ | ⟨os, mp, hu, hb, h0, ho, p1, p2⟩
      · rw [p2] at pr
        obtain ⟨env', rb⟩ := rp_bad at_ tn e0 f4 e5 me p1
        simp only [pr, rb]
        exact .inl ⟨(i : Int) + 1, msg, env', mo, rfl, rfl⟩
      · rw [p2, lsD_len] at pr
        have ro := rp_ok at_ tn e0 f4 e5 me p1
        by_cases c : i + 1 < ls.length
        · rw [if_pos c] at pr
          obtain ⟨r', rfl⟩ : ∃ r', r = r' + 1 := ⟨r - 1, by omega⟩
          simp only [pr, ro, lp_nx]
          rw [List.range'_succ, List.map_cons, loopF_cons]
          have t3 : ∀ (R : List (Str × FV)) (a b : Option RV), tgE (.nm 3) (natI (i + 1)) [e0, some (.ol (lsD ls)), some (.ob me "Reader" R), a, b, e5] = some [e0, some (.ol (lsD ls)), some (.ob me "Reader" R), some (.d (.int ((i + 1 : Nat) : Int))), b, e5] := fun _ _ _ => rfl
          rw [t3]
          have at2 := lsD_at c
          obtain ⟨env', rb⟩ := rp_bad at2 (rdr_tk (m : Int) (n : Int) ss (.tuple (os.map natI))) e0 (some (.d .none)) e5 me (take_behind (by omega))
          simp only [rb]
          refine .inl ⟨(i : Int) + 2, "text behind return", env', by decide +kernel, rfl, ?_⟩
          show Out.ex 1 (exT (((i + 1 : Nat) : Int) + 1) "text behind return") env' = _
          congr 2 <;> omega
        · rw [if_neg c] at pr
          have r0 : r = 0 := by omega
          subst r0
          simp only [pr, ro, lp_nx]
          refine .inr (.inr ⟨m, n, ss, os, _, _, ⟨m2, mh, n1, nh, H.ok, H.s8, H.new, hu, hb, h0, ho⟩, ?_, rfl, rfl⟩)
          have e1 : ls = ls.take i ++ [ls[i]] := by
            rw [← List.take_succ_eq_append_getElem hi, List.take_of_length_le (by omega)]
          have e2 : lnT ls[i] = lnR os := by unfold lnT lnR; rw [mp]
          calc ls.map lnT = (ls.take i ++ [ls[i]]).map lnT := congrArg (List.map lnT) e1
            _ = lns m n ss os := by
              rw [List.map_append, H.pre]
              show lnM m :: lnI n :: (lnSs ss ++ [lnT ls[i]]) = _
              rw [e2]
              rfl
    · have hr2 : ∀ w, (ls[i]).head? = some w → w.str ≠ "return" := fun w z e => hr' ⟨w, z, e⟩
      rcases line_s hW m n ss H.s8 hNd hi2 hr2 g7 _ rfl with ⟨msg, mo, p1, p2⟩ | ⟨s, mp, ol, or', sl, sr, c8, hn, p1, e5', p2⟩
      · rw [p2] at pr
        obtain ⟨env', rb⟩ := rp_bad at_ tn e0 f4 e5 me p1
        simp only [pr, rb]
        exact .inl ⟨(i : Int) + 1, msg, env', mo, rfl, rfl⟩
      · rw [p2] at pr
        have ro := rp_ok at_ tn e0 f4 e5 me p1
        simp only [pr, ro, lp_nx]
        refine loop_k ls hL hN m n m2 mh n1 nh e0 e5 me r (i + 1) (ss ++ [s]) _ _ _ _ _ _ (by omega) ⟨?_, ?_, ?_, ?_, ?_⟩
        · rw [List.length_append, H.at_]
          rfl
        · have e2 : lnT ls[i] = lnS ss.length s := by unfold lnT lnS; rw [mp]
          rw [List.take_succ_eq_append_getElem hi, List.map_append, H.pre, lnSs_snoc]
          show lnM m :: lnI n :: (lnSs ss ++ [lnT ls[i]]) = _
          rw [e2]
        · rw [List.length_append]
          show ss.length + 1 ≤ 8
          omega
        · intro k t hk
          rcases Nat.lt_or_ge k ss.length with c | c
          · rw [List.getElem?_append_left c] at hk
            exact H.ok k t hk
          · rw [List.getElem?_append_right c] at hk
            have : k - ss.length = 0 := by
              have := (List.getElem?_eq_some_iff.mp hk).1
              simp at this
              omega
            rw [this] at hk
            cases hk
            rw [show k = ss.length by omega]
            exact ⟨ol, or'⟩
        · intro k t hk
          rcases Nat.lt_or_ge k ss.length with c | c
          · rw [List.getElem?_append_left c] at hk
            rw [List.take_append_of_le_length (by omega)]
            exact H.new k t hk
          · rw [List.getElem?_append_right c] at hk
            have : k - ss.length = 0 := by
              have := (List.getElem?_eq_some_iff.mp hk).1
              simp at this
              omega
            rw [this] at hk
            cases hk
            rw [show k = ss.length by omega, List.take_append_of_le_length (Nat.le_refl _), List.take_length]
            exact hn
theorem numIn_some {K : Str} {lo hi : Nat} {ws : List Wd} {v : Nat} (h : numIn K lo hi ws = some v) : ws.map Wd.str = [K, numS v] ∧ lo ≤ v ∧ v ≤ hi := by
  match ws, h with
  | [w0, w1], h =>
    rw [numIn2] at h
    split at h
    · rename_i c
      match w1, h with
      | .op (.c u), h =>
        have h : (if lo ≤ u ∧ u ≤ hi then some u else none) = some v := h
        split at h
        · rename_i c1
          cases h
          exact ⟨by rw [← c]; rfl, c1.1, c1.2⟩
        · cases h
      | .op (.x u), h => cases h
      | .op (.s u), h => cases h
      | .li i, h => cases h
    · cases h
  | [], h => cases h
  | [_], h => cases h
  | _ :: _ :: _ :: _, h => cases h
theorem loop_all (ls : List (List Wd)) (hL : ∀ ws ∈ ls, LineW ws) (hN : ls.length ≤ 1000) (e0 e5 : Option RV) (me : Bool) (f3 f4 g4 g5 g6 g7 : Option RV) :
    EndT ls (loopF (.nm 4) L0__law_due ((List.range ls.length).map natI) [some (.d (.list (lsD ls))), some (.ol []), some (.d (.int 0)), some (.d (.int 0)), g4, g5, g6, g7])
      (loopF (.nm 3) L0_read_program ((List.range ls.length).map natI) [e0, some (.ol (lsD ls)), some (.ob me "Reader" (rdr 0 0 [] .none)), f3, f4, e5]) e0 e5 me := by
  rw [List.range_eq_range']
  cases hl0 : ls.length with
  | zero => exact .inr (.inl ⟨_, _, _, _, _, _, _, _, _, _, _, _, rfl, rfl⟩)
  | succ r =>
    have hi : 0 < ls.length := by omega
    have at_ := lsD_at hi
    have hW := hL ls[0] (List.getElem_mem hi)
    rw [List.range'_succ, List.map_cons, loopF_cons, loopF_cons]
    have t1 : tgE (.nm 4) (natI 0) [some (.d (.list (lsD ls))), some (.ol []), some (.d (.int 0)), some (.d (.int 0)), g4, g5, g6, g7] = some [some (.d (.list (lsD ls))), some (.ol []), some (.d (.int 0)), some (.d (.int 0)), some (.d (.int ((0 : Nat) : Int))), g5, g6, g7] := rfl
    have t2 : tgE (.nm 3) (natI 0) [e0, some (.ol (lsD ls)), some (.ob me "Reader" (rdr 0 0 [] .none)), f3, f4, e5] = some [e0, some (.ol (lsD ls)), some (.ob me "Reader" (rdr 0 0 [] .none)), some (.d (.int ((0 : Nat) : Int))), f4, e5] := rfl
    rw [t1, t2]
    have pr := due_pre hW at_ (some (.ol [])) (some (.d (.int 0))) (some (.d (.int 0))) g5 g6 g7
    rw [if_pos rfl] at pr
    have tn := rdr_tk 0 0 [] .none
    obtain ⟨x1, x2⟩ := due0 hW (some (.d (.list (lsD ls)))) (some (.ol [])) (some (.d (.int 0))) (some (.d (.int 0))) (some (.d (.int ((0 : Nat) : Int)))) g7
    obtain ⟨y1, y2⟩ := take0_any hW 0 0 [] .none
    cases q : numIn "mod" 2 1000 ls[0] with
    | none =>
      rw [x1 q] at pr
      obtain ⟨env', rb⟩ := rp_bad at_ tn e0 f4 e5 me (y1 q)
      simp only [pr, rb]
      exact .inl ⟨1, "expected mod", env', by decide +kernel, rfl, rfl⟩
    | some m =>
      rw [x2 m q] at pr
      have ro := rp_ok at_ tn e0 f4 e5 me (y2 m q)
      obtain ⟨mp, m2, mh⟩ := numIn_some q
      simp only [pr, ro, lp_nx]
      cases r with
      | zero => exact .inr (.inl ⟨_, _, _, _, _, _, _, _, _, _, _, _, rfl, rfl⟩)
      | succ r =>
        have hi1 : 1 < ls.length := by omega
        have at1 := lsD_at hi1
        have hW1 := hL ls[1] (List.getElem_mem hi1)
        rw [List.range'_succ, List.map_cons, loopF_cons, loopF_cons]
        generalize hW5 : wsD ls[0] = W5 at *
        have t1 : tgE (.nm 4) (natI (0 + 1)) [some (.d (.list (lsD ls))), some (.ol []), some (.d (.int (m : Int))), some (.d (.int 0)), some (.d (.int ((0 : Nat) : Int))), some (.ol W5), some (.d (.int (m : Int))), g7] = some [some (.d (.list (lsD ls))), some (.ol []), some (.d (.int (m : Int))), some (.d (.int 0)), some (.d (.int ((1 : Nat) : Int))), some (.ol W5), some (.d (.int (m : Int))), g7] := rfl
        have t2 : tgE (.nm 3) (natI (0 + 1)) [e0, some (.ol (lsD ls)), some (.ob me "Reader" (rdr (m : Int) 0 [] .none)), some (.d (.int ((0 : Nat) : Int))), some (.d .none), e5] = some [e0, some (.ol (lsD ls)), some (.ob me "Reader" (rdr (m : Int) 0 [] .none)), some (.d (.int ((1 : Nat) : Int))), some (.d .none), e5] := rfl
        rw [t1, t2]
        have pr := due_pre hW1 at1 (some (.ol [])) (some (.d (.int (m : Int)))) (some (.d (.int 0))) (some (.ol W5)) (some (.d (.int (m : Int)))) g7
        rw [if_neg (by decide), if_pos rfl] at pr
        have tn := rdr_tk (m : Int) 0 [] .none
        obtain ⟨x1, x2⟩ := due1 hW1 (some (.d (.list (lsD ls)))) (some (.ol [])) (some (.d (.int (m : Int)))) (some (.d (.int 0))) (some (.d (.int ((1 : Nat) : Int)))) g7
        obtain ⟨y1, y2⟩ := take1_any hW1 (m : Int) 0 [] .none
        cases q1 : numIn "inputs" 1 6 ls[1] with
        | none =>
          rw [x1 q1] at pr
          obtain ⟨env', rb⟩ := rp_bad at1 tn e0 (some (.d .none)) e5 me (y1 q1)
          simp only [pr, rb]
          exact .inl ⟨2, "expected inputs", env', by decide +kernel, rfl, rfl⟩
        | some n =>
          rw [x2 n q1] at pr
          have ro := rp_ok at1 tn e0 (some (.d .none)) e5 me (y2 n q1)
          obtain ⟨np, n1, nh⟩ := numIn_some q1
          simp only [pr, ro, lp_nx]
          refine loop_k ls hL hN m n m2 mh n1 nh e0 e5 me r (0 + 1 + 1) [] _ _ _ _ _ _ (by omega) ⟨rfl, ?_, by simp, fun k s z => by simp at z, fun k s z => by simp at z⟩
          have e1 : lnT ls[0] = lnM m := by unfold lnT lnM; rw [mp]
          have e2 : lnT ls[1] = lnI n := by unfold lnT lnI; rw [np]
          have e3 : ls.take (0 + 1 + 1) = [ls[0], ls[1]] := by
            rw [List.take_succ_eq_append_getElem hi1, List.take_succ_eq_append_getElem hi, List.take_zero]
            rfl
          rw [e3]
          show [lnT ls[0], lnT ls[1]] = [lnM m, lnI n]
          rw [e1, e2]
def endW (n : Nat) : Str := if n = 0 then "expected mod" else if n = 1 then "expected inputs" else "expected return"
theorem end_at (n : Nat) : ∀ k : Int, k = (if (2 : Int) < (n : Int) then 2 else (n : Int)) ∨ k = (if (n : Int) < 2 then (n : Int) else 2) → atI [PyData.str "expected mod", .str "expected inputs", .str "expected return"] k = some (.str (endW n)) := by
  intro k hk
  have hk : k = 0 ∧ n = 0 ∨ k = 1 ∧ n = 1 ∨ k = 2 ∧ 2 ≤ n := by
    rcases hk with h | h <;> split at h <;> omega
  rcases hk with ⟨rfl, rfl⟩ | ⟨rfl, rfl⟩ | ⟨rfl, h⟩
  · rfl
  · rfl
  · unfold endW
    rw [if_neg (by omega), if_neg (by omega)]
    rfl
theorem endW_ok (n : Nat) : PyData.strOk (endW n) = true := by
  unfold endW
  split
  · decide +kernel
  · split <;> decide +kernel
theorem read_both (ls : List (List Wd)) (hL : ∀ ws ∈ ls, LineW ws) (hN : ls.length ≤ 1000) {T : Str} (hT : F_lines_of [.d (.str T)] = .ok (.ol (lsD ls))) :
    (∃ (line : Int) (msg : Str), PyData.strOk msg = true ∧ F__law_due [.d (.list (lsD ls))] = .ok (.d (.tuple [.int line, .str msg])) ∧ F_read_program [.d (.str T)] = .ex 1 (exT line msg)) ∨
    (∃ (m n : Nat) (ss : List Stp) (os : List Nat), GoodT m n ss os ∧ ls.map lnT = lns m n ss os ∧ F__law_due [.d (.list (lsD ls))] = .ok (.d .none) ∧ F_read_program [.d (.str T)] = .ok (.d (progT m n ss os))) := by
  have hz : ls.length ≤ 1000000 := by omega
  have ll := lsD_len ls
  have gr : gR1 [.d (.int (ls.length : Int))] = .ok ((List.range ls.length).map natI) := by rw [e_R1n (by omega), rng_nat]
  have ini := init_ok
  have i0 : isNone (.d .none) = true := rfl
  have AL := loop_all ls hL hN (some (.d (.str T))) none false none none none none none none
  have L1 : F__law_due [.d (.list (lsD ls))] = (B__law_due [some (.d (.list (lsD ls))), none, none, none, none, none, none, none]).fin := rfl
  have R1 : F_read_program [.d (.str T)] = (B_read_program [some (.d (.str T)), none, none, none, none, none]).fin := rfl
  rw [L1, R1]
  unfold B__law_due B_read_program
  generalize hRG : (List.range ls.length).map natI = RG at *
  rcases AL with ⟨line, msg, env', mo, p1, p2⟩ | ⟨a, b, ss', e1, e2, e3, e4, e5', e6, e7, f3, f4, p1, p2⟩ | ⟨m, n, ss', os, f3, f4, g, el, p1, p2⟩
  · left
    refine ⟨line, msg, mo, ?_, ?_⟩
    · generalize lsD ls = LS at *
      simp only [VT, oS, List.getElem?_cons_zero, List.getElem?_cons_succ, List.set_cons_succ, List.set_cons_zero, List.length_cons, List.length_nil, Nat.reduceAdd, Nat.reduceLT, Nat.reduceLeDiff, Nat.reduceEqDiff, if_true, if_false, List.map_cons, List.map_nil, Option.map_some, reduceIte, Option.bind_some, Option.bind_none, List.append_nil, List.nil_append, List.cons_append, beq_self_eq_true, ll, hz, gr, p1]
    · generalize lsD ls = LS at *
      generalize rdr 0 0 [] .none = R0 at *
      simp only [VT, oS, List.getElem?_cons_zero, List.getElem?_cons_succ, List.set_cons_succ, List.set_cons_zero, List.length_cons, List.length_nil, Nat.reduceAdd, Nat.reduceLT, Nat.reduceLeDiff, Nat.reduceEqDiff, if_true, if_false, List.map_cons, List.map_nil, Option.map_some, reduceIte, Option.bind_some, Option.bind_none, List.append_nil, List.nil_append, List.cons_append, beq_self_eq_true, e_fldS, e_fld, e_obO, e_obB, e_fvd, e_fvl, e_fvF, e_toD, e_toL, e_retS, e_rmO, e_finM, e_finN, e_prop, e_okR, e_M, e_setM, e_appT, e_arO, e_boO, e_mCall, e_MF, e_plainD, e_plainO, e_putob, e_pbD, e_pbB, e_mkO, e_MP, e_fapp, e_fvO, e_dropM, e_ifM, e_retM, e_retNS, e_m2, e_mB, e_mPT, e_mNot, e_mOr, e_nbo, Out.then_rm, MO.out_ok, MO.out_ex, MO.bind_ok, Rs.mo_ok, Option.map_some, and_self, if_true, true_and, and_true, List.all_cons, List.all_nil, Bool.and_true, putFV_nil, hT, ini, ll, hz, gr, p2, Out.then_ex]
      rfl
  · left
    have fo := rdr_o a b ss' .none
    have ew := end_at ls.length
    have fl := fldT (.int ((ls.length : Int) + 1)) (.str (endW ls.length))
    refine ⟨(ls.length : Int) + 1, endW ls.length, endW_ok _, ?_, ?_⟩
    · generalize lsD ls = LS at *
      simp only [VT, oS, List.getElem?_cons_zero, List.getElem?_cons_succ, List.set_cons_succ, List.set_cons_zero, List.length_cons, List.length_nil, Nat.reduceAdd, Nat.reduceLT, Nat.reduceLeDiff, Nat.reduceEqDiff, if_true, if_false, List.map_cons, List.map_nil, Option.map_some, reduceIte, Option.bind_some, Option.bind_none, List.append_nil, List.nil_append, List.cons_append, beq_self_eq_true, ll, hz, gr, p1, ew _ (.inl rfl), ew _ (.inr rfl)]
    · generalize lsD ls = LS at *
      generalize rdr 0 0 [] .none = R0 at *
      generalize rdr a b ss' .none = R2 at *
      unfold exT
      simp only [VT, oS, List.getElem?_cons_zero, List.getElem?_cons_succ, List.set_cons_succ, List.set_cons_zero, List.length_cons, List.length_nil, Nat.reduceAdd, Nat.reduceLT, Nat.reduceLeDiff, Nat.reduceEqDiff, if_true, if_false, List.map_cons, List.map_nil, Option.map_some, reduceIte, Option.bind_some, Option.bind_none, List.append_nil, List.nil_append, List.cons_append, beq_self_eq_true, e_fldS, e_fld, e_obO, e_obB, e_fvd, e_fvl, e_fvF, e_toD, e_toL, e_retS, e_rmO, e_finM, e_finN, e_prop, e_okR, e_M, e_setM, e_appT, e_arO, e_boO, e_mCall, e_MF, e_plainD, e_plainO, e_putob, e_pbD, e_pbB, e_mkO, e_MP, e_fapp, e_fvO, e_dropM, e_ifM, e_retM, e_retNS, e_m2, e_mB, e_mPT, e_mNot, e_mOr, e_nbo, Out.then_rm, MO.out_ok, MO.out_ex, MO.bind_ok, Rs.mo_ok, Option.map_some, and_self, if_true, true_and, and_true, List.all_cons, List.all_nil, Bool.and_true, putFV_nil, hT, ini, ll, hz, gr, p2, fo, i0, ew _ (.inl rfl), ew _ (.inr rfl), e_raise, fl, Out.then_ex]
      rfl
  · right
    have fm := rdr_m (m : Int) (n : Int) ss' (.tuple (os.map natI))
    have fn := rdr_n (m : Int) (n : Int) ss' (.tuple (os.map natI))
    have fs := rdr_s (m : Int) (n : Int) ss' (.tuple (os.map natI))
    have fo := rdr_o (m : Int) (n : Int) ss' (.tuple (os.map natI))
    have i1 : isNone (.d (.tuple (os.map natI))) = false := rfl
    refine ⟨m, n, ss', os, g, el, ?_, ?_⟩
    · generalize lsD ls = LS at *
      simp only [VT, oS, List.getElem?_cons_zero, List.getElem?_cons_succ, List.set_cons_succ, List.set_cons_zero, List.length_cons, List.length_nil, Nat.reduceAdd, Nat.reduceLT, Nat.reduceLeDiff, Nat.reduceEqDiff, if_true, if_false, List.map_cons, List.map_nil, Option.map_some, reduceIte, Option.bind_some, Option.bind_none, List.append_nil, List.nil_append, List.cons_append, beq_self_eq_true, ll, hz, gr, p1]
    · unfold progT progD
      generalize lsD ls = LS at *
      generalize rdr 0 0 [] .none = R0 at *
      generalize rdr (m : Int) (n : Int) ss' (.tuple (os.map natI)) = R2 at *
      generalize os.map natI = ON at *
      generalize ss'.map Stp.d = SD at *
      simp only [VT, oS, List.getElem?_cons_zero, List.getElem?_cons_succ, List.set_cons_succ, List.set_cons_zero, List.length_cons, List.length_nil, Nat.reduceAdd, Nat.reduceLT, Nat.reduceLeDiff, Nat.reduceEqDiff, if_true, if_false, List.map_cons, List.map_nil, Option.map_some, reduceIte, Option.bind_some, Option.bind_none, List.append_nil, List.nil_append, List.cons_append, beq_self_eq_true, e_fldS, e_fld, e_obO, e_obB, e_fvd, e_fvl, e_fvF, e_toD, e_toL, e_retS, e_rmO, e_finM, e_finN, e_prop, e_okR, e_M, e_setM, e_appT, e_arO, e_boO, e_mCall, e_MF, e_plainD, e_plainO, e_putob, e_pbD, e_pbB, e_mkO, e_MP, e_fapp, e_fvO, e_dropM, e_ifM, e_retM, e_retNS, e_m2, e_mB, e_mPT, e_mNot, e_mOr, e_nbo, Out.then_rm, MO.out_ok, MO.out_ex, MO.bind_ok, Rs.mo_ok, Option.map_some, and_self, if_true, true_and, and_true, List.all_cons, List.all_nil, Bool.and_true, putFV_nil, hT, ini, ll, hz, gr, p2, fm, fn, fs, fo, i1]
structure LineV (s : Str) : Prop where
  vis : ∀ c ∈ s.cps.toList, 32 ≤ c ∧ c < 200
  len : s.cps.toList.length ≤ 72
theorem LineV.nl {s : Str} (h : LineV s) : 10 ∉ s.cps.toList := fun hm => by
  have := (h.vis 10 hm).1
  omega
theorem splitV {ls : List Str} (h0 : ls ≠ []) (h : ∀ l ∈ ls, LineV l) : Txt.split (txt0 ls) "\n" = ls := split_join (s := 10) (S := []) nl_l (by decide +kernel) h0 fun p hp hm => (h p hp).nl hm
theorem txt0_lenV {ls : List Str} (h : ∀ l ∈ ls, LineV l) : (txt0 ls).length ≤ ls.length * 73 := by
  rw [str_size]
  unfold txt0
  rw [join_l, nl_l]
  have := joinL_len [10] 72 (ls.map fun s => s.cps.toList) fun p hp => by
    obtain ⟨w, hw, rfl⟩ := List.mem_map.mp hp
    exact (h w hw).len
  rw [List.length_map] at this
  exact this
theorem lineV_em : LineV "" := ⟨fun c hc => (by rw [em_l] at hc; cases hc), (by rw [em_l]; decide)⟩
theorem LineV.sh {s : Str} (h : LineV s) : SeqAt.shaped (.str s) = true := sh_str (ok_of fun c hc => (h.vis c hc).2)
theorem lines_snoc {is : List Str} {l : Str} (h : ∀ x ∈ is, LineV x) (hl : LineV l) (hz : is.length ≤ 900) : F_lines_of [.d (.str (txt0 (is ++ [l])))] = .ok (if l = "" then .ol (is.map .str) else .ol ((is ++ [l]).map .str)) := by
  have ha : ∀ x ∈ is ++ [l], LineV x := fun x hx => by
    rcases List.mem_append.mp hx with hx | hx
    · exact h x hx
    · rw [List.mem_singleton.mp hx]; exact hl
  have hlen := txt0_lenV ha
  rw [List.length_append, List.length_singleton] at hlen
  have sp : gSplit (txt0 (is ++ [l])) (.d (.str "\n")) = .ok (.ol (is.map .str ++ [.str l])) := by
    rw [e_split, if_pos ⟨by decide +kernel, by omega⟩, splitV (by simp) ha, List.map_append]
    rfl
  have s0 : SeqAt.shaped (.str "") = true := by decide +kernel
  have s1 := hl.sh
  have ev := eqv_str l ""
  have em : (is ++ [l]).map PyData.str = is.map .str ++ [.str l] := by rw [List.map_append]; rfl
  have cu : gSl (.bl (is.map PyData.str ++ [.str l])) none (some (-1)) = .ok (.ol (is.map .str)) := by
    show Rs.ok (RV.ol (cutL (is.map PyData.str ++ [.str l]) none (some (-1)))) = _
    rw [cut_last, List.dropLast_concat]
  rw [em]
  show (B_lines_of [some (.d (.str (txt0 (is ++ [l])))), none]).fin = _
  unfold B_lines_of
  generalize txt0 (is ++ [l]) = T at *
  generalize is.map PyData.str = IS at *
  generalize ("\n" : Str) = NL at *
  by_cases c : l = ""
  · rw [decide_eq_true c] at ev
    rw [if_pos c]
    simp only [VT, oS, List.getElem?_cons_zero, List.getElem?_cons_succ, List.set_cons_succ, List.set_cons_zero, List.length_cons, List.length_nil, Nat.reduceAdd, Nat.reduceLT, Nat.reduceLeDiff, Nat.reduceEqDiff, if_true, if_false, List.map_cons, List.map_nil, Option.map_some, reduceIte, Option.bind_some, Option.bind_none, List.append_nil, List.nil_append, List.cons_append, beq_self_eq_true, e_M1, sp, s0, s1, ev, cu]
  · rw [decide_eq_false c] at ev
    rw [if_neg c]
    simp only [VT, oS, List.getElem?_cons_zero, List.getElem?_cons_succ, List.set_cons_succ, List.set_cons_zero, List.length_cons, List.length_nil, Nat.reduceAdd, Nat.reduceLT, Nat.reduceLeDiff, Nat.reduceEqDiff, if_true, if_false, List.map_cons, List.map_nil, Option.map_some, reduceIte, Option.bind_some, Option.bind_none, List.append_nil, List.nil_append, List.cons_append, beq_self_eq_true, e_M1, sp, s0, s1, ev]
theorem lines_nil : F_lines_of [.d (.str (txt0 []))] = .ok (.ol []) := by
  have e : txt0 [] = txt0 ([] ++ [("" : Str)]) := str_ext (by unfold txt0; rw [join_l, join_l]; rfl)
  rw [e, lines_snoc (fun _ z => by cases z) lineV_em (by decide), if_pos rfl]
  rfl
theorem txt0_nl (ls : List Str) (h0 : ls ≠ []) : txt0 ls ++ "\n" = txt0 (ls ++ [("" : Str)]) := str_ext (by
  rw [app_l]
  unfold txt0
  rw [join_l, join_l, nl_l, List.map_append, List.map_singleton, joinL_snoc _ _ _ (by simpa using h0), em_l]
  rfl)
theorem lines_nl {ls : List Str} (h0 : ls ≠ []) (h : ∀ x ∈ ls, LineV x) (hz : ls.length ≤ 900) : F_lines_of [.d (.str (txt0 ls ++ "\n"))] = .ok (.ol (ls.map .str)) := by
  rw [txt0_nl ls h0, lines_snoc h lineV_em hz, if_pos rfl]
def GL (l : Str) : Prop := ∃ ws, LineW ws ∧ lnT ws = l
theorem GL.v {l : Str} (h : GL l) : LineV l := by
  obtain ⟨ws, hw, rfl⟩ := h
  exact ⟨hw.vis, hw.lenL⟩
theorem ex_ws : ∀ (L : List Str), (∀ l ∈ L, GL l) → ∃ ls : List (List Wd), (∀ ws ∈ ls, LineW ws) ∧ ls.map lnT = L
  | [], _ => ⟨[], fun _ z => (by cases z), rfl⟩
  | l :: L, h => by
    obtain ⟨ws, hw, e⟩ := h l List.mem_cons_self
    obtain ⟨ls, h1, h2⟩ := ex_ws L fun x hx => h x (List.mem_cons_of_mem _ hx)
    refine ⟨ws :: ls, fun x hx => ?_, by rw [List.map_cons, e, h2]⟩
    rcases List.mem_cons.mp hx with rfl | hx
    · exact hw
    · exact h1 x hx
section
variable {m n : Nat} {ss : List Stp} {os : List Nat}
theorem GoodT.gl (g : GoodT m n ss os) : ∀ l ∈ lns m n ss os, GL l := by
  intro l hl
  have h1 := g.mh
  have h2 := g.nh
  have h8 := g.s8
  have o8 := g.o8
  unfold lns at hl
  rcases List.mem_cons.mp hl with rfl | hl
  · exact ⟨[.li 1, .op (.c m)], ⟨fun w hw => by
      simp at hw
      rcases hw with rfl | rfl
      · trivial
      · show m < 100000; omega, by simp, (by show 2 ≤ 9; decide)⟩, rfl⟩
  rcases List.mem_cons.mp hl with rfl | hl
  · exact ⟨[.li 2, .op (.c n)], ⟨fun w hw => by
      simp at hw
      rcases hw with rfl | rfl
      · trivial
      · show n < 100000; omega, by simp, (by show 2 ≤ 9; decide)⟩, rfl⟩
  rcases List.mem_append.mp hl with hl | hl
  · obtain ⟨k, hk⟩ := List.mem_iff_getElem?.mp hl
    rw [lnSs_at] at hk
    cases hs : ss[k]? with
    | none => rw [hs] at hk; cases hk
    | some s =>
      rw [hs] at hk
      cases hk
      obtain ⟨a, b⟩ := g.sm hs
      have kl := (List.getElem?_eq_some_iff.mp hs).1
      obtain ⟨i, hi⟩ : ∃ i : Fin 21, litF i = s.op.str := by
        cases s.op
        · exact ⟨5, rfl⟩
        · exact ⟨6, rfl⟩
        · exact ⟨7, rfl⟩
      refine ⟨[.op (.s k), .li 4, .op s.l, .li i, .op s.r], ⟨fun w hw => ?_, by simp, (by show 5 ≤ 9; decide)⟩, ?_⟩
      · simp at hw
        rcases hw with rfl | rfl | rfl | rfl | rfl
        · show k < 100000; omega
        · trivial
        · exact a
        · trivial
        · exact b
      · show lnW [lx "s" k, "=", s.l.str, litF i, s.r.str] = _
        rw [hi]
        rfl
  · have := List.mem_singleton.mp hl
    subst this
    refine ⟨.li 3 :: os.map fun o => .op (.s o), ⟨fun w hw => ?_, by simp, by simp; omega⟩, ?_⟩
    · rcases List.mem_cons.mp hw with rfl | hw
      · trivial
      · obtain ⟨o, ho, rfl⟩ := List.mem_map.mp hw
        have := g.hi o ho
        show o < 100000
        omega
    · unfold lnT lnR
      rw [List.map_cons, List.map_map]
      rfl
end
def oS_ (k : Nat) : Wd := .op (.s k)
def oX_ (k : Nat) : Wd := .op (.x k)
def oC_ (k : Nat) : Wd := .op (.c k)
def oddW : List (List Wd) := [
  [.li 0], [.li 0, .li 0], [.li 1, oC_ 7], [.li 1, oC_ 1], [.li 1, oC_ 1001], [.li 1, .li 8], [.li 1], [.li 2, oC_ 0], [.li 2, oC_ 7], [.li 2, oC_ 2, .li 0], [.li 2, oC_ 6], [.li 3], [.li 3, .li 0], [.li 3, oS_ 0],
  [.li 3, oS_ 1, oS_ 0], [.li 3, oS_ 0, oS_ 0], [.li 3, oS_ 9], [.li 3, oX_ 0], [.li 3, oC_ 0], [.li 3, .li 9], [.li 10, oS_ 0], [.li 0, .li 3, oS_ 0], [oS_ 0, .li 4, oX_ 0, .li 5, oX_ 0], [oS_ 0, .li 4, oX_ 0, .li 5, oX_ 1],
  [oS_ 1, .li 4, oX_ 0, .li 5, oX_ 0], [oS_ 0, .li 4, oS_ 0, .li 5, oX_ 0], [oS_ 1, .li 4, oS_ 1, .li 7, oC_ 1], [oS_ 2, .li 4, oX_ 0, .li 6, oX_ 9], [oS_ 1, .li 4, oC_ 1000, .li 5, oC_ 0], [oS_ 0, .li 4, oC_ 999, .li 7, oC_ 1],
  [oS_ 1, .li 0, .li 4, oX_ 0, .li 5, oX_ 0], [oS_ 1, .li 4, oX_ 0, .li 15, oX_ 0], [oS_ 1, .li 4, oX_ 0, .li 5, .li 12], [oS_ 1, .li 4, .li 11, .li 5, oX_ 0],
  [oS_ 1, .li 4, oX_ 0, .li 5], [.li 13, .li 4, oX_ 0, .li 5, oX_ 0], [oS_ 1, .li 14, oX_ 0, .li 5, oX_ 0], [oS_ 3, .li 4, oS_ 2, .li 5, oS_ 2], [oS_ 7, .li 4, oS_ 0, .li 7, oS_ 0], [oS_ 8, .li 4, oS_ 0, .li 7, oS_ 0],
  [.li 16, .li 17], [oS_ 1, .li 4, .li 18, .li 5, oX_ 0], [oS_ 1, .li 4, .li 19, .li 5, oX_ 0], [oS_ 1, .li 4, .li 20, .li 5, oX_ 0]]
def oddA : List Str := ["", " ", "mod 7", "mod 1", "mod 1001", "mod 007", "mod", "inputs 0", "inputs 7", "inputs 2 ", "inputs 6", "return", "return ", "return s0"]
def oddB : List Str := ["return s1 s0", "return s0 s0", "return s9", "return x0", "return 0", "return s00", "returns s0", " return s0", "s0 = x0 + x0", "s0 = x0 + x1"]
def oddC : List Str := ["s1 = x0 + x0", "s0 = s0 + x0", "s1 = s1 * 1", "s2 = x0 - x9", "s1 = 1000 + 0", "s0 = 999 * 1", "s1  = x0 + x0", "s1 = x0 / x0", "s1 = x0 + x", "s1 = y0 + x0"]
def oddD : List Str := ["s1 = x0 +", "s = x0 + x0", "s1 := x0 + x0", "s3 = s2 + s2", "s7 = s0 * s0", "s8 = s0 * s0", "# remark", "s1 = -1 + x0", "s1 = 01 + x0", "s1 = 1000000 + x0"]
def oddL : List Str := oddA ++ oddB ++ oddC ++ oddD
def numC (k : Nat) : List Nat := if k < 10 then [48 + k] else if k < 100 then [48 + k / 10, 48 + k % 10] else if k < 1000 then [48 + k / 10 / 10, 48 + k / 10 % 10, 48 + k % 10] else [48 + k / 10 / 10 / 10, 48 + k / 10 / 10 % 10, 48 + k / 10 % 10, 48 + k % 10]
theorem numC_eq {k : Nat} (h : k < 10000) : numL k = numC k := by
  unfold numC
  by_cases c1 : k < 10
  · rw [if_pos c1, numL_lt c1]
  rw [if_neg c1, numL_step (by omega)]
  by_cases c2 : k < 100
  · rw [if_pos c2, numL_lt (by omega)]
    rfl
  rw [if_neg c2, numL_step (n := k / 10) (by omega)]
  by_cases c3 : k < 1000
  · rw [if_pos c3, numL_lt (by omega)]
    rfl
  rw [if_neg c3, numL_step (n := k / 10 / 10) (by omega), numL_lt (by omega)]
  rfl
def Wd.okB : Wd → Bool
  | .op (.x k) => decide (k < 10000)
  | .op (.s k) => decide (k < 10000)
  | .op (.c k) => decide (k < 10000)
  | .li _ => true
theorem Wd.ok_of {w : Wd} (h : w.okB = true) : w.ok := by
  match w, h with
  | .op (.x k), h => have h : decide (k < 10000) = true := h; have := of_decide_eq_true h; show k < 100000; omega
  | .op (.s k), h => have h : decide (k < 10000) = true := h; have := of_decide_eq_true h; show k < 100000; omega
  | .op (.c k), h => have h : decide (k < 10000) = true := h; have := of_decide_eq_true h; show k < 100000; omega
  | .li _, _ => trivial
def Wd.cs : Wd → List Nat
  | .op (.x k) => 120 :: numC k
  | .op (.s k) => 115 :: numC k
  | .op (.c k) => numC k
  | .li i => (litF i).cps.toList
theorem Wd.cs_eq {w : Wd} (h : w.okB = true) : w.str.cps.toList = w.cs := by
  match w, h with
  | .op (.x k), h =>
    have h : decide (k < 10000) = true := h
    show (lx "x" k).cps.toList = 120 :: numC k
    rw [lx_l let_x, numC_eq (of_decide_eq_true h)]
  | .op (.s k), h =>
    have h : decide (k < 10000) = true := h
    show (lx "s" k).cps.toList = 115 :: numC k
    rw [lx_l let_s, numC_eq (of_decide_eq_true h)]
  | .op (.c k), h =>
    have h : decide (k < 10000) = true := h
    show (numS k).cps.toList = numC k
    rw [num_l, numC_eq (of_decide_eq_true h)]
  | .li _, _ => rfl
theorem codes_inj : ∀ {xs ys : List Str}, (xs.map fun s => s.cps.toList) = (ys.map fun s => s.cps.toList) → xs = ys
  | [], [], _ => rfl
  | [], _ :: _, h => by cases h
  | _ :: _, [], h => by cases h
  | x :: xs, y :: ys, h => by
    rw [List.map_cons, List.map_cons] at h
    injection h with h1 h2
    rw [str_ext h1, codes_inj h2]
theorem oddW_ok : (oddW.all fun ws => ws.all Wd.okB && (!ws.isEmpty) && decide (ws.length ≤ 9)) = true := by decide +kernel
theorem odd_codes : (oddW.map fun ws => joinL [32] (ws.map Wd.cs)) = oddL.map fun s => s.cps.toList := by decide +kernel
theorem oddL_eq : oddW.map lnT = oddL := by
  refine codes_inj ?_
  rw [← odd_codes, List.map_map]
  refine List.map_congr_left fun ws hw => ?_
  have := List.all_eq_true.mp oddW_ok ws hw
  rw [Bool.and_eq_true, Bool.and_eq_true] at this
  show (lnW (ws.map Wd.str)).cps.toList = _
  rw [lnW_l, List.map_map]
  congr 1
  exact List.map_congr_left fun w hw => Wd.cs_eq (List.all_eq_true.mp this.1.1 w hw)
theorem odd_gl : ∀ l ∈ oddL, GL l := by
  intro l hl
  rw [← oddL_eq] at hl
  obtain ⟨ws, hw, rfl⟩ := List.mem_map.mp hl
  have := List.all_eq_true.mp oddW_ok ws hw
  rw [Bool.and_eq_true, Bool.and_eq_true] at this
  obtain ⟨⟨a, b⟩, c⟩ := this
  refine ⟨ws, ⟨fun w hw => Wd.ok_of (List.all_eq_true.mp a w hw), ?_, of_decide_eq_true c⟩, rfl⟩
  rintro rfl
  cases b
noncomputable def aL : VEnv → Out := (sSet 3 (cA (fun rs => if rs.length = 2 then F__law_program (rs.map RV.arg) else .no) (aC (cV 0) (aC (c2 gMul (cC (.int 8)) (cV 2)) aN))))
noncomputable def bL : VEnv → Out := (sFz 3 (sSet 4 (cA (fun rs => if rs.length = 1 then F__law_lines (rs.map RV.arg) else .no) (aC (cV 3) aN))))
noncomputable def cL : VEnv → Out := (sSet 5 (cA (fun rs => if rs.length = 3 then F__law_draw (rs.map RV.arg) else .no) (aC (cV 0) (aC (c2 gAdd (c2 gMul (cC (.int 8)) (cV 2)) (cC (.int 7))) (aC (cA gList (aC (cC (.int 6)) (aC (cC (.int 11)) (aC (cC (.int 44)) (aC (cC (.int 2)) aN))))) aN)))))
noncomputable def atL : VEnv → Out := (sSet 6 (c2 gMod (c2 gIx (cV 5) (cC (.int 1))) (cA gLen (aC (cV 4) aN))))
noncomputable def chgL : VEnv → Out := (sIf (cB (c2 gEq (c2 gIx (cV 5) (cC (.int 0))) (cC (.int 0)))) (sSet 4 (c2 gAdd (c2 gAdd (cSl (cV 4) oN (oS (cV 6))) (cA gList (aC (c2 gIx (cV 1) (c2 gIx (cV 5) (cC (.int 2)))) aN))) (cSl (cV 4) (oS (c2 gAdd (cV 6) (cC (.int 1)))) oN))) (sIf (cB (c2 gEq (c2 gIx (cV 5) (cC (.int 0))) (cC (.int 1)))) (sSet 4 (c2 gAdd (c2 gAdd (cSl (cV 4) oN (oS (cV 6))) (cA gList (aC (c2 gIx (cV 1) (c2 gIx (cV 5) (cC (.int 2)))) aN))) (cSl (cV 4) (oS (cV 6)) oN))) (sIf (cB (c2 gEq (c2 gIx (cV 5) (cC (.int 0))) (cC (.int 2)))) (sSet 4 (c2 gAdd (cSl (cV 4) oN (oS (cV 6))) (cSl (cV 4) (oS (c2 gAdd (cV 6) (cC (.int 1)))) oN))) (sIf (cB (c2 gEq (c2 gIx (cV 5) (cC (.int 0))) (cC (.int 3)))) (sSet 4 (c2 gAdd (cSl (cV 4) oN (oS (c2 gAdd (cV 6) (cC (.int 1))))) (cSl (cV 4) (oS (cV 6)) oN))) (sIf (cB (c2 gEq (c2 gIx (cV 5) (cC (.int 0))) (cC (.int 4)))) (sSet 4 (cSl (cV 4) oN (oS (cV 6)))) (sSet 4 (c2 gAdd (cV 4) (cA gList (aC (c2 gIx (cV 1) (c2 gIx (cV 5) (cC (.int 2)))) aN)))))))))
noncomputable def jL : VEnv → Out := (sFz 4 (sSet 7 (cM1 gJoin (cC (.str "\n")) (cV 4))))
noncomputable def kL : VEnv → Out := (sIf (bAnd (cB (c2 gEq (c2 gIx (cV 5) (cC (.int 3))) (cC (.int 1)))) (cB (c2 gGt (cA gLen (aC (cV 4) aN)) (cC (.int 0))))) (sSet 7 (c2 gAdd (cV 7) (cC (.str "\n")))) sNil)
noncomputable def dL : VEnv → Out := (sIf (bAnd (cB (c2 gGt (cA gLen (aC (cV 4) aN)) (cC (.int 0)))) (bAnd (cB (c2 gEq (c2 gIx (cV 4) (c1 gNeg (cC (.int 1)))) (cC (.str "")))) (cB (c2 gEq (c2 gIx (cV 5) (cC (.int 3))) (cC (.int 0)))))) (sSet 4 (cSl (cV 4) oN (oS (c1 gNeg (cC (.int 1)))))) sNil)
noncomputable def dueL : VEnv → Out := (sFz 4 (sSet 8 (cA (fun rs => if rs.length = 1 then F__law_due (rs.map RV.arg) else .no) (aC (cV 4) aN))))
noncomputable def tryL : VEnv → Out := (sTry mt_TidyError 10 Y0_law Z0_law)
noncomputable def finL : VEnv → Out := (sFz 9 (sIf (bOr (cB (c2 gIsNot (cV 8) (cC .none))) (cB (c2 gNe (cA (fun rs => if rs.length = 1 then F__law_lines (rs.map RV.arg) else .no) (aC (cV 9) aN)) (cV 4)))) (sRet (cC (.bool false))) sNil))
theorem L2_eq : L2_law = sSeq aL (sSeq bL (sSeq cL (sSeq atL (sSeq chgL (sSeq jL (sSeq kL (sSeq dL (sSeq dueL (sSeq tryL (finL)))))))))) := rfl
theorem lsD_map (ls : List (List Wd)) : lsD ls = (ls.map lnT).map PyData.str := by unfold lsD; rw [List.map_map]; rfl
theorem strs_nice {xs : List Str} (h : ∀ x ∈ xs, LineV x) : Nice 1 (.list (xs.map PyData.str)) := Nice.lst fun d hd => by
  obtain ⟨x, hx, rfl⟩ := List.mem_map.mp hd
  exact Nice.str 0 (ok_of fun c hc => ((h x hx).vis c hc).2)
theorem try_bad {line : Int} {msg : Str} {T : Str} (mo : PyData.strOk msg = true) (p2 : F_read_program [.d (.str T)] = .ex 1 (exT line msg)) (e0 e1 e2 e3 e4 e5 e6 e9 e10 : Option RV) :
    sTry mt_TidyError 10 Y0_law Z0_law [e0, e1, e2, e3, e4, e5, e6, some (.d (.str T)), some (.d (.tuple [.int line, .str msg])), e9, e10] = .ct [e0, e1, e2, e3, e4, e5, e6, some (.d (.str T)), some (.d (.tuple [.int line, .str msg])), e9, none] := by
  refine e_try_ex (c := 1) (fl := exT line msg) (env' := [e0, e1, e2, e3, e4, e5, e6, some (.d (.str T)), some (.d (.tuple [.int line, .str msg])), e9, e10]) ?_ rfl (by show 10 < 11; decide) fun a dd => ?_
  · unfold Y0_law
    simp only [VT, oS, List.getElem?_cons_zero, List.getElem?_cons_succ, List.set_cons_succ, List.set_cons_zero, List.length_cons, List.length_nil, Nat.reduceAdd, Nat.reduceLT, Nat.reduceLeDiff, Nat.reduceEqDiff, if_true, if_false, List.map_cons, List.map_nil, Option.map_some, reduceIte, Option.bind_some, Option.bind_none, List.append_nil, List.nil_append, List.cons_append, beq_self_eq_true, p2, Rs.out_ex, Rs.bind_ex]
  · have l1 : List.lookup ("what" : Str) (exT line msg) = some (.str msg) := rfl
    have l2 : List.lookup ("line" : Str) (exT line msg) = some (.int line) := rfl
    have c1 : cs_what 1 = true := rfl
    have c2' : cs_line 1 = true := rfl
    have t1 : tk_TaskError 1 = some false := rfl
    have t2 : tk_ValueError 1 = some true := rfl
    have t3 : tk_ProgramError 1 = some true := rfl
    have t4 : tk_PlanError 1 = some false := rfl
    have nd : Nice 1 (.tuple [.int line, .str msg]) := Nice.tup fun d hd => by
      rcases List.mem_cons.mp hd with rfl | hd
      · exact Nice.int 0 _
      · rw [List.mem_singleton.mp hd]; exact Nice.str 0 mo
    have s1 := nd.shaped (by decide)
    have s2 := nd.refl
    unfold Z0_law
    simp only [VT, oS, List.getElem?_cons_zero, List.getElem?_cons_succ, List.set_cons_succ, List.set_cons_zero, List.length_cons, List.length_nil, Nat.reduceAdd, Nat.reduceLT, Nat.reduceLeDiff, Nat.reduceEqDiff, if_true, if_false, List.map_cons, List.map_nil, Option.map_some, reduceIte, Option.bind_some, Option.bind_none, List.append_nil, List.nil_append, List.cons_append, beq_self_eq_true, e_xf, e_isE, l1, l2, c1, c2', t1, t2, t3, t4, isNone, s1, s2, e_clr3]
theorem try_good {P : PyData} {T : Str} (p2 : F_read_program [.d (.str T)] = .ok (.d P)) (e0 e1 e2 e3 e4 e5 e6 e8 e9 e10 : Option RV) :
    sTry mt_TidyError 10 Y0_law Z0_law [e0, e1, e2, e3, e4, e5, e6, some (.d (.str T)), e8, e9, e10] = .nx [e0, e1, e2, e3, e4, e5, e6, some (.d (.str T)), e8, some (.d P), e10] := by
  refine e_try_ok ?_ (fun _ _ _ z => by cases z)
  unfold Y0_law
  simp only [VT, oS, List.getElem?_cons_zero, List.getElem?_cons_succ, List.set_cons_succ, List.set_cons_zero, List.length_cons, List.length_nil, Nat.reduceAdd, Nat.reduceLT, Nat.reduceLeDiff, Nat.reduceEqDiff, if_true, if_false, List.map_cons, List.map_nil, Option.map_some, reduceIte, Option.bind_some, Option.bind_none, List.append_nil, List.nil_append, List.cons_append, beq_self_eq_true, p2]
def Turn (o : Out) (e0 e1 e2 : Option RV) : Prop := ∃ a3 a4 a5 a6 a7 a8 a9 a10 : Option RV, o = .nx [e0, e1, e2, a3, a4, a5, a6, a7, a8, a9, a10] ∨ o = .ct [e0, e1, e2, a3, a4, a5, a6, a7, a8, a9, a10]
theorem told_ok (L : List Str) (hG : ∀ l ∈ L, GL l) (hN : L.length ≤ 1000) {T : Str} (hT : F_lines_of [.d (.str T)] = .ok (.ol (L.map .str))) (e0 e1 e2 e3 e5 e6 e8 e9 e10 : Option RV) (r4 : RV) (h4 : r4 = .ol (L.map .str) ∨ r4 = .d (.list (L.map .str))) :
    Turn (sSeq dueL (sSeq tryL finL) [e0, e1, e2, e3, some r4, e5, e6, some (.d (.str T)), e8, e9, e10]) e0 e1 e2 := by
  obtain ⟨ls, hL, eL⟩ := ex_ws L hG
  have eD : lsD ls = L.map .str := by rw [lsD_map, eL]
  have hl : ls.length = L.length := by rw [← eL, List.length_map]
  have rb := read_both ls hL (by omega) (T := T) (by rw [eD]; exact hT)
  rw [eD] at rb
  have fz : ∀ g : VEnv → Out, sFz 4 g [e0, e1, e2, e3, some r4, e5, e6, some (.d (.str T)), e8, e9, e10] = sFz 4 g [e0, e1, e2, e3, some (.d (.list (L.map .str))), e5, e6, some (.d (.str T)), e8, e9, e10] := fun g => by
    rcases h4 with rfl | rfl <;> rfl
  rcases rb with ⟨line, msg, mo, p1, p2⟩ | ⟨m, n, ss, os, g, el, p1, p2⟩
  · have tr := try_bad mo p2 e0 e1 e2 e3 (some (.d (.list (L.map .str)))) e5 e6 e9 e10
    refine ⟨e3, some (.d (.list (L.map .str))), e5, e6, some (.d (.str T)), some (.d (.tuple [.int line, .str msg])), e9, none, .inr ?_⟩
    rw [e_seq]
    unfold dueL tryL
    rw [fz]
    generalize L.map PyData.str = LS at *
    simp only [VT, oS, List.getElem?_cons_zero, List.getElem?_cons_succ, List.set_cons_succ, List.set_cons_zero, List.length_cons, List.length_nil, Nat.reduceAdd, Nat.reduceLT, Nat.reduceLeDiff, Nat.reduceEqDiff, if_true, if_false, List.map_cons, List.map_nil, Option.map_some, reduceIte, Option.bind_some, Option.bind_none, List.append_nil, List.nil_append, List.cons_append, beq_self_eq_true, p1, tr, Out.then_ct]
  · have tr := try_good p2 e0 e1 e2 e3 (some (.d (.list (L.map .str)))) e5 e6 (some (.d .none)) e9 e10
    have li := lines_ok g
    rw [← el, eL] at li
    have nd := strs_nice fun x hx => (hG x hx).v
    have s1 := nd.shaped (by decide)
    have s2 := nd.refl
    have i0 : isNone (.d .none) = true := rfl
    refine ⟨e3, some (.d (.list (L.map .str))), e5, e6, some (.d (.str T)), some (.d .none), some (.d (progT m n ss os)), e10, .inl ?_⟩
    rw [e_seq]
    unfold dueL tryL finL
    rw [fz]
    generalize L.map PyData.str = LS at *
    generalize progT m n ss os = P at *
    simp only [VT, oS, List.getElem?_cons_zero, List.getElem?_cons_succ, List.set_cons_succ, List.set_cons_zero, List.length_cons, List.length_nil, Nat.reduceAdd, Nat.reduceLT, Nat.reduceLeDiff, Nat.reduceEqDiff, if_true, if_false, List.map_cons, List.map_nil, Option.map_some, reduceIte, Option.bind_some, Option.bind_none, List.append_nil, List.nil_append, List.cons_append, beq_self_eq_true, p1, tr, li, s1, s2, i0]
theorem sum_len (b : Nat) : ∀ (ys : List Str), (∀ y ∈ ys, y.length ≤ b) → (ys.map fun y => y.length).sum ≤ ys.length * b
  | [], _ => Nat.zero_le _
  | y :: ys, h => by
    have ih := sum_len b ys fun z hz => h z (List.mem_cons_of_mem _ hz)
    have := h y (by simp)
    have hs : ((y :: ys).map fun y => y.length).sum = y.length + (ys.map fun y => y.length).sum := by simp
    rw [hs, List.length_cons, Nat.add_mul]
    omega
theorem tjoin_ok {a : Str} (ys : List Str) (ha : a.length ≤ 10) (hn : ys.length ≤ 1000) (h : ∀ y ∈ ys, y.length ≤ 100) : gJoin a (.ol (ys.map .str)) = .ok (.d (.str (Txt.join a ys))) := by
  have := sum_len 100 ys h
  have h2 : ys.length * a.length ≤ ys.length * 10 := Nat.mul_le_mul_left _ ha
  have e : gJoin a (.ol (ys.map .str)) = (rsO (strsD (ys.map .str))).bind fun ys => if (ys.map (·.length)).sum + ys.length * a.length ≤ 1000000 then .ok (.d (.str (Txt.join a ys))) else .no := rfl
  rw [e, strsD_map]
  show (if (ys.map fun y => y.length).sum + ys.length * a.length ≤ 1000000 then _ else _) = _
  rw [if_pos (by omega)]
theorem join_d {a : Str} (ys : List Str) (ha : a.length ≤ 10) (hn : ys.length ≤ 1000) (h : ∀ y ∈ ys, y.length ≤ 100) : gJoin a (.d (.list (ys.map .str))) = .ok (.d (.str (Txt.join a ys))) := tjoin_ok ys ha hn h
theorem LineV.size {s : Str} (h : LineV s) : s.length ≤ 100 := by rw [str_size]; have := h.len; omega
theorem atI_last (xs : List PyData) (x : PyData) : atI (xs ++ [x]) (-1) = some x := e_atm xs x
theorem mid_ok (L : List Str) (hG : ∀ l ∈ L, GL l) (hN : L.length ≤ 100) {nd : List PyData} {a3 : Nat} (h3 : atI nd 3 = some (.int (a3 : Int))) (b3 : a3 = 0 ∨ a3 = 1) (e0 e1 e2 e3 e6 e7 e8 e9 e10 : Option RV) :
    Turn (sSeq jL (sSeq kL (sSeq dL (sSeq dueL (sSeq tryL finL)))) [e0, e1, e2, e3, some (.ol (L.map .str)), some (.ol nd), e6, e7, e8, e9, e10]) e0 e1 e2 := by
  have hV : ∀ x ∈ L, LineV x := fun x hx => (hG x hx).v
  have jn : gJoin "\n" (.d (.list (L.map .str))) = .ok (.d (.str (txt0 L))) := join_d L nl_len (by omega) fun y hy => (hV y hy).size
  have hlen := txt0_lenV hV
  have hz : (txt0 L).length ≤ 1000000 := by omega
  have ll : (L.map PyData.str).length = L.length := List.length_map _
  have lz : L.length ≤ 1000000 := by omega
  rcases List.eq_nil_or_concat L with rfl | ⟨is, l, e⟩
  · have T := told_ok [] (fun _ z => by cases z) (by decide) lines_nil e0 e1 e2 e3 (some (.ol nd)) e6 e8 e9 e10 (.d (.list [])) (.inr rfl)
    have d0 : decide ((0 : Int) < ((0 : Nat) : Int)) = false := rfl
    have jn : gJoin "\n" (.d (.list [])) = .ok (.d (.str (txt0 []))) := jn
    show Turn (sSeq jL (sSeq kL (sSeq dL (sSeq dueL (sSeq tryL finL)))) [e0, e1, e2, e3, some (.ol []), some (.ol nd), e6, e7, e8, e9, e10]) e0 e1 e2
    have st : sSeq jL (sSeq kL (sSeq dL (sSeq dueL (sSeq tryL finL)))) [e0, e1, e2, e3, some (.ol []), some (.ol nd), e6, e7, e8, e9, e10] = sSeq dueL (sSeq tryL finL) [e0, e1, e2, e3, some (.d (.list [])), some (.ol nd), e6, some (.d (.str (txt0 []))), e8, e9, e10] := by
      rw [e_seq jL]
      unfold jL kL dL
      generalize sSeq dueL (sSeq tryL finL) = K at *
      generalize txt0 [] = T0 at *
      generalize ("\n" : Str) = NL at *
      rcases b3 with rfl | rfl
      · have d3 : decide (((0 : Nat) : Int) = 1) = false := rfl
        have d4 : decide (((0 : Nat) : Int) = 0) = true := rfl
        simp only [VT, oS, List.getElem?_cons_zero, List.getElem?_cons_succ, List.set_cons_succ, List.set_cons_zero, List.length_cons, List.length_nil, Nat.reduceAdd, Nat.reduceLT, Nat.reduceLeDiff, Nat.reduceEqDiff, if_true, if_false, List.map_cons, List.map_nil, Option.map_some, reduceIte, Option.bind_some, Option.bind_none, List.append_nil, List.nil_append, List.cons_append, beq_self_eq_true, e_M1, jn, h3, d3, d4, d0]
      · have d3 : decide (((1 : Nat) : Int) = 1) = true := rfl
        have d4 : decide (((1 : Nat) : Int) = 0) = false := rfl
        simp only [VT, oS, List.getElem?_cons_zero, List.getElem?_cons_succ, List.set_cons_succ, List.set_cons_zero, List.length_cons, List.length_nil, Nat.reduceAdd, Nat.reduceLT, Nat.reduceLeDiff, Nat.reduceEqDiff, if_true, if_false, List.map_cons, List.map_nil, Option.map_some, reduceIte, Option.bind_some, Option.bind_none, List.append_nil, List.nil_append, List.cons_append, beq_self_eq_true, e_M1, jn, h3, d3, d4, d0]
    rw [st]
    exact T
  · rw [List.concat_eq_append] at e
    have hne : L ≠ [] := by rw [e]; simp
    have d0 : decide ((L.length : Int) > 0) = true := decide_eq_true (by have := List.length_pos_iff.mpr hne; omega)
    have hl : LineV l := hV l (by rw [e]; simp)
    have at_ : atI (L.map PyData.str) (-1) = some (.str l) := by rw [e, List.map_append]; exact atI_last _ _
    have s0 : SeqAt.shaped (.str "") = true := by decide +kernel
    have s1 := hl.sh
    have ev := eqv_str l ""
    have hnl : (txt0 L ++ "\n").length ≤ 1000000 := by rw [len_app]; have := nl_len; omega
    rcases b3 with rfl | rfl
    · have d3 : decide (((0 : Nat) : Int) = 1) = false := rfl
      have d4 : decide (((0 : Nat) : Int) = 0) = true := rfl
      have tl := lines_snoc (is := is) (l := l) (fun x hx => hV x (by rw [e]; exact List.mem_append_left _ hx)) hl (by rw [e, List.length_append] at hN; omega)
      rw [← e] at tl
      by_cases c : l = ""
      · rw [decide_eq_true c] at ev
        rw [if_pos c] at tl
        have cu : gSl (.d (.list (L.map PyData.str))) none (some (-1)) = .ok (.ol (is.map .str)) := by
          show Rs.ok (RV.ol (cutL (L.map PyData.str) none (some (-1)))) = _
          rw [e, List.map_append, cut_last, List.map_singleton, List.dropLast_concat]
        have T := told_ok is (fun x hx => hG x (by rw [e]; exact List.mem_append_left _ hx)) (by rw [e, List.length_append] at hN; omega) tl e0 e1 e2 e3 (some (.ol nd)) e6 e8 e9 e10 (.ol (is.map .str)) (.inl rfl)
        have st : sSeq jL (sSeq kL (sSeq dL (sSeq dueL (sSeq tryL finL)))) [e0, e1, e2, e3, some (.ol (L.map .str)), some (.ol nd), e6, e7, e8, e9, e10] = sSeq dueL (sSeq tryL finL) [e0, e1, e2, e3, some (.ol (is.map .str)), some (.ol nd), e6, some (.d (.str (txt0 L))), e8, e9, e10] := by
          rw [e_seq jL]
          unfold jL kL dL
          generalize sSeq dueL (sSeq tryL finL) = K at *
          generalize txt0 L = T0 at *
          generalize L.map PyData.str = LD at *
          generalize is.map PyData.str = ID at *
          generalize ("\n" : Str) = NL at *
          simp only [VT, oS, List.getElem?_cons_zero, List.getElem?_cons_succ, List.set_cons_succ, List.set_cons_zero, List.length_cons, List.length_nil, Nat.reduceAdd, Nat.reduceLT, Nat.reduceLeDiff, Nat.reduceEqDiff, if_true, if_false, List.map_cons, List.map_nil, Option.map_some, reduceIte, Option.bind_some, Option.bind_none, List.append_nil, List.nil_append, List.cons_append, beq_self_eq_true, e_M1, jn, h3, d3, d4, ll, lz, d0, at_, s0, s1, ev, cu]
        rw [st]
        exact T
      · rw [decide_eq_false c] at ev
        rw [if_neg c] at tl
        have T := told_ok L hG (by omega) tl e0 e1 e2 e3 (some (.ol nd)) e6 e8 e9 e10 (.d (.list (L.map .str))) (.inr rfl)
        have st : sSeq jL (sSeq kL (sSeq dL (sSeq dueL (sSeq tryL finL)))) [e0, e1, e2, e3, some (.ol (L.map .str)), some (.ol nd), e6, e7, e8, e9, e10] = sSeq dueL (sSeq tryL finL) [e0, e1, e2, e3, some (.d (.list (L.map .str))), some (.ol nd), e6, some (.d (.str (txt0 L))), e8, e9, e10] := by
          rw [e_seq jL]
          unfold jL kL dL
          generalize sSeq dueL (sSeq tryL finL) = K at *
          generalize txt0 L = T0 at *
          generalize L.map PyData.str = LD at *
          generalize ("\n" : Str) = NL at *
          simp only [VT, oS, List.getElem?_cons_zero, List.getElem?_cons_succ, List.set_cons_succ, List.set_cons_zero, List.length_cons, List.length_nil, Nat.reduceAdd, Nat.reduceLT, Nat.reduceLeDiff, Nat.reduceEqDiff, if_true, if_false, List.map_cons, List.map_nil, Option.map_some, reduceIte, Option.bind_some, Option.bind_none, List.append_nil, List.nil_append, List.cons_append, beq_self_eq_true, e_M1, jn, h3, d3, d4, ll, lz, d0, at_, s0, s1, ev]
        rw [st]
        exact T
    · have d3 : decide (((1 : Nat) : Int) = 1) = true := rfl
      have d4 : decide (((1 : Nat) : Int) = 0) = false := rfl
      have ad : gAdd (.d (.str (txt0 L))) (.d (.str "\n")) = .ok (.d (.str (txt0 L ++ "\n"))) := by
        rw [e_addS, if_pos (by have := nl_len; omega)]
      have T := told_ok L hG (by omega) (lines_nl hne hV (by omega)) e0 e1 e2 e3 (some (.ol nd)) e6 e8 e9 e10 (.d (.list (L.map .str))) (.inr rfl)
      have st : sSeq jL (sSeq kL (sSeq dL (sSeq dueL (sSeq tryL finL)))) [e0, e1, e2, e3, some (.ol (L.map .str)), some (.ol nd), e6, e7, e8, e9, e10] = sSeq dueL (sSeq tryL finL) [e0, e1, e2, e3, some (.d (.list (L.map .str))), some (.ol nd), e6, some (.d (.str (txt0 L ++ "\n"))), e8, e9, e10] := by
        rw [e_seq jL]
        unfold jL kL dL
        generalize sSeq dueL (sSeq tryL finL) = K at *
        generalize txt0 L ++ "\n" = T1 at *
        generalize txt0 L = T0 at *
        generalize L.map PyData.str = LD at *
        generalize ("\n" : Str) = NL at *
        by_cases c : l = ""
        · rw [decide_eq_true c] at ev
          simp only [VT, oS, List.getElem?_cons_zero, List.getElem?_cons_succ, List.set_cons_succ, List.set_cons_zero, List.length_cons, List.length_nil, Nat.reduceAdd, Nat.reduceLT, Nat.reduceLeDiff, Nat.reduceEqDiff, if_true, if_false, List.map_cons, List.map_nil, Option.map_some, reduceIte, Option.bind_some, Option.bind_none, List.append_nil, List.nil_append, List.cons_append, beq_self_eq_true, e_M1, jn, h3, d3, d4, ll, lz, d0, at_, s0, s1, ev, ad]
        · rw [decide_eq_false c] at ev
          simp only [VT, oS, List.getElem?_cons_zero, List.getElem?_cons_succ, List.set_cons_succ, List.set_cons_zero, List.length_cons, List.length_nil, Nat.reduceAdd, Nat.reduceLT, Nat.reduceLeDiff, Nat.reduceEqDiff, if_true, if_false, List.map_cons, List.map_nil, Option.map_some, reduceIte, Option.bind_some, Option.bind_none, List.append_nil, List.nil_append, List.cons_append, beq_self_eq_true, e_M1, jn, h3, d3, d4, ll, lz, d0, at_, s0, s1, ev, ad]
      rw [st]
      exact T
theorem oddL_len : oddL.length = 44 := rfl
theorem chg_ok (L : List Str) (hG : ∀ l ∈ L, GL l) (hN : L.length ≤ 40) {at_ : Nat} (ha : at_ < L.length) {ND : List PyData} {a0 a2 : Nat} (h0 : atI ND 0 = some (.int (a0 : Int))) (b0 : a0 < 6) (h2 : atI ND 2 = some (.int (a2 : Int))) (b2 : a2 < 44) (e0 e2 e3 e7 e8 e9 e10 : Option RV) :
    ∃ L' : List Str, (∀ l ∈ L', GL l) ∧ L'.length ≤ 100 ∧ chgL [e0, some (.ol (oddL.map .str)), e2, e3, some (.ol (L.map .str)), some (.ol ND), some (.d (.int (at_ : Int))), e7, e8, e9, e10] = .nx [e0, some (.ol (oddL.map .str)), e2, e3, some (.ol (L'.map .str)), some (.ol ND), some (.d (.int (at_ : Int))), e7, e8, e9, e10] := by
  have ho : a2 < oddL.length := by rw [oddL_len]; exact b2
  have og : GL oddL[a2] := odd_gl _ (List.getElem_mem ho)
  have ao : atI (oddL.map PyData.str) (a2 : Int) = some (.str oddL[a2]) := by
    rw [atI_lt (by omega) (by simpa using ho)]
    simp [ho]
  have c1 : gSl (.bl (L.map PyData.str)) none (some (at_ : Int)) = .ok (.ol ((L.take at_).map .str)) := by
    show Rs.ok (RV.ol (cutL (L.map PyData.str) none (some (at_ : Int)))) = _
    rw [cut_pre _ at_ (by rw [List.length_map]; omega), ← List.map_take]
  have c2 : gSl (.bl (L.map PyData.str)) (some (at_ : Int)) none = .ok (.ol ((L.drop at_).map .str)) := by
    show Rs.ok (RV.ol (cutL (L.map PyData.str) (some (at_ : Int)) none)) = _
    rw [cut_suf _ at_ (by rw [List.length_map]; omega), ← List.map_drop]
  have c3 : gSl (.bl (L.map PyData.str)) none (some ((at_ : Int) + 1)) = .ok (.ol ((L.take (at_ + 1)).map .str)) := by
    show Rs.ok (RV.ol (cutL (L.map PyData.str) none (some ((at_ : Int) + 1)))) = _
    rw [show (at_ : Int) + 1 = ((at_ + 1 : Nat) : Int) by omega, cut_pre _ (at_ + 1) (by rw [List.length_map]; omega), ← List.map_take]
  have c4 : gSl (.bl (L.map PyData.str)) (some ((at_ : Int) + 1)) none = .ok (.ol ((L.drop (at_ + 1)).map .str)) := by
    show Rs.ok (RV.ol (cutL (L.map PyData.str) (some ((at_ : Int) + 1)) none)) = _
    rw [show (at_ : Int) + 1 = ((at_ + 1 : Nat) : Int) by omega, cut_suf _ (at_ + 1) (by rw [List.length_map]; omega), ← List.map_drop]
  have g1 : ∀ k, ∀ l ∈ L.take k, GL l := fun k l hl => hG l (List.mem_of_mem_take hl)
  have g2 : ∀ k, ∀ l ∈ L.drop k, GL l := fun k l hl => hG l (List.mem_of_mem_drop hl)
  have ga : ∀ (x y : List Str), (∀ l ∈ x, GL l) → (∀ l ∈ y, GL l) → ∀ l ∈ x ++ y, GL l := fun x y hx hy l hl => by
    rcases List.mem_append.mp hl with hl | hl
    · exact hx l hl
    · exact hy l hl
  have g3 : ∀ l ∈ [oddL[a2]], GL l := fun l hl => by rw [List.mem_singleton.mp hl]; exact og
  have m1 : ∀ k, ((L.take k).map PyData.str).length ≤ 50 := fun k => by rw [List.length_map, List.length_take]; omega
  have m2 : ∀ k, ((L.drop k).map PyData.str).length ≤ 50 := fun k => by rw [List.length_map, List.length_drop]; omega
  have m3 : (L.map PyData.str).length ≤ 50 := by rw [List.length_map]; omega
  have k1 : ∀ k, (L.take k).length ≤ 40 := fun k => by rw [List.length_take]; omega
  have k2 : ∀ k, (L.drop k).length ≤ 40 := fun k => by rw [List.length_drop]; omega
  have dd : ∀ a b : List PyData, a.length ≤ 51 → b.length ≤ 51 → gAdd (.ol a) (.ol b) = .ok (.ol (a ++ b)) := fun a b ha hb => by
    rw [e_addL1, if_pos (by omega)]
  have db : ∀ a b : List PyData, a.length ≤ 51 → b.length ≤ 51 → gAdd (.bl a) (.ol b) = .ok (.ol (a ++ b)) := fun a b ha hb => by
    rw [e_addL3, if_pos (by omega)]
  have hc : a0 = 0 ∨ a0 = 1 ∨ a0 = 2 ∨ a0 = 3 ∨ a0 = 4 ∨ a0 = 5 := by omega
  have fin : ∀ (A B C : List PyData), A.length ≤ 50 → B.length ≤ 50 → (A ++ B).length ≤ 51 → True := fun _ _ _ _ _ _ => trivial
  rcases hc with rfl | rfl | rfl | rfl | rfl | rfl
  · refine ⟨L.take at_ ++ [oddL[a2]] ++ L.drop (at_ + 1), ga _ _ (ga _ _ (g1 at_) g3) (g2 (at_ + 1)), (by have := k1 at_; have := k2 (at_ + 1); simp only [List.length_append, List.length_singleton]; omega), ?_⟩
    have d0 : decide (((0 : Nat) : Int) = 0) = true := rfl
    have d1 : decide (((0 : Nat) : Int) = 1) = false := rfl
    have d2 : decide (((0 : Nat) : Int) = 2) = false := rfl
    have d3 : decide (((0 : Nat) : Int) = 3) = false := rfl
    have d4 : decide (((0 : Nat) : Int) = 4) = false := rfl
    have q1 := dd ((L.take at_).map .str) [.str oddL[a2]] (Nat.le_trans (m1 at_) (by decide)) (by show 1 ≤ 51; decide)
    have q2 := dd ((L.take at_).map .str ++ [.str oddL[a2]]) ((L.drop (at_ + 1)).map .str) (by rw [List.length_append]; have := m1 at_; show _ + 1 ≤ 51; omega) (Nat.le_trans (m2 _) (by decide))
    rw [show (L.take at_ ++ [oddL[a2]] ++ L.drop (at_ + 1)).map PyData.str = (L.take at_).map .str ++ [.str oddL[a2]] ++ (L.drop (at_ + 1)).map .str by rw [List.map_append, List.map_append]; rfl]
    have w1 := m1 at_
    have w2 := m2 (at_ + 1)
    have z1 : ((L.take at_).map PyData.str).length + 1 ≤ 1000000 := by omega
    have z2 : ((L.take at_).map PyData.str).length + 1 + ((L.drop (at_ + 1)).map PyData.str).length ≤ 1000000 := by omega
    have z3 : ((L.take at_).map PyData.str ++ [PyData.str oddL[a2]]).length + ((L.drop (at_ + 1)).map PyData.str).length ≤ 1000000 := by rw [List.length_append]; show _ + 1 + _ ≤ _; omega
    generalize (L.take at_).map PyData.str = A at *
    generalize (L.drop (at_ + 1)).map PyData.str = B at *
    generalize L.map PyData.str = LD at *
    unfold chgL
    generalize oddL.map PyData.str = OD at *
    simp only [VT, oS, List.getElem?_cons_zero, List.getElem?_cons_succ, List.set_cons_succ, List.set_cons_zero, List.length_cons, List.length_nil, Nat.reduceAdd, Nat.reduceLT, Nat.reduceLeDiff, Nat.reduceEqDiff, if_true, if_false, List.map_cons, List.map_nil, Option.map_some, reduceIte, Option.bind_some, Option.bind_none, List.append_nil, List.nil_append, List.cons_append, beq_self_eq_true, h0, h2, ao, d0, d1, d2, d3, d4, c1, c4, q1, q2, z1, z2, z3]
  · refine ⟨L.take at_ ++ [oddL[a2]] ++ L.drop at_, ga _ _ (ga _ _ (g1 at_) g3) (g2 at_), (by have := k1 at_; have := k2 at_; simp only [List.length_append, List.length_singleton]; omega), ?_⟩
    have d0 : decide (((1 : Nat) : Int) = 0) = false := rfl
    have d1 : decide (((1 : Nat) : Int) = 1) = true := rfl
    have d2 : decide (((1 : Nat) : Int) = 2) = false := rfl
    have d3 : decide (((1 : Nat) : Int) = 3) = false := rfl
    have d4 : decide (((1 : Nat) : Int) = 4) = false := rfl
    have q1 := dd ((L.take at_).map .str) [.str oddL[a2]] (Nat.le_trans (m1 at_) (by decide)) (by show 1 ≤ 51; decide)
    have q2 := dd ((L.take at_).map .str ++ [.str oddL[a2]]) ((L.drop at_).map .str) (by rw [List.length_append]; have := m1 at_; show _ + 1 ≤ 51; omega) (Nat.le_trans (m2 _) (by decide))
    rw [show (L.take at_ ++ [oddL[a2]] ++ L.drop at_).map PyData.str = (L.take at_).map .str ++ [.str oddL[a2]] ++ (L.drop at_).map .str by rw [List.map_append, List.map_append]; rfl]
    have w1 := m1 at_
    have w2 := m2 at_
    have z1 : ((L.take at_).map PyData.str).length + 1 ≤ 1000000 := by omega
    have z2 : ((L.take at_).map PyData.str).length + 1 + ((L.drop at_).map PyData.str).length ≤ 1000000 := by omega
    have z3 : ((L.take at_).map PyData.str ++ [PyData.str oddL[a2]]).length + ((L.drop at_).map PyData.str).length ≤ 1000000 := by rw [List.length_append]; show _ + 1 + _ ≤ _; omega
    generalize (L.take at_).map PyData.str = A at *
    generalize (L.drop at_).map PyData.str = B at *
    generalize L.map PyData.str = LD at *
    unfold chgL
    generalize oddL.map PyData.str = OD at *
    simp only [VT, oS, List.getElem?_cons_zero, List.getElem?_cons_succ, List.set_cons_succ, List.set_cons_zero, List.length_cons, List.length_nil, Nat.reduceAdd, Nat.reduceLT, Nat.reduceLeDiff, Nat.reduceEqDiff, if_true, if_false, List.map_cons, List.map_nil, Option.map_some, reduceIte, Option.bind_some, Option.bind_none, List.append_nil, List.nil_append, List.cons_append, beq_self_eq_true, h0, h2, ao, d0, d1, d2, d3, d4, c1, c2, q1, q2, z1, z2, z3]
  · refine ⟨L.take at_ ++ L.drop (at_ + 1), ga _ _ (g1 at_) (g2 (at_ + 1)), (by have := k1 at_; have := k2 (at_ + 1); simp only [List.length_append]; omega), ?_⟩
    have d0 : decide (((2 : Nat) : Int) = 0) = false := rfl
    have d1 : decide (((2 : Nat) : Int) = 1) = false := rfl
    have d2 : decide (((2 : Nat) : Int) = 2) = true := rfl
    have d3 : decide (((2 : Nat) : Int) = 3) = false := rfl
    have d4 : decide (((2 : Nat) : Int) = 4) = false := rfl
    rw [show (L.take at_ ++ L.drop (at_ + 1)).map PyData.str = (L.take at_).map .str ++ (L.drop (at_ + 1)).map .str from List.map_append]
    have w1 := m1 at_
    have w2 := m2 (at_ + 1)
    have z1 : ((L.take at_).map PyData.str).length + ((L.drop (at_ + 1)).map PyData.str).length ≤ 1000000 := by omega
    generalize (L.take at_).map PyData.str = A at *
    generalize (L.drop (at_ + 1)).map PyData.str = B at *
    generalize L.map PyData.str = LD at *
    unfold chgL
    generalize oddL.map PyData.str = OD at *
    simp only [VT, oS, List.getElem?_cons_zero, List.getElem?_cons_succ, List.set_cons_succ, List.set_cons_zero, List.length_cons, List.length_nil, Nat.reduceAdd, Nat.reduceLT, Nat.reduceLeDiff, Nat.reduceEqDiff, if_true, if_false, List.map_cons, List.map_nil, Option.map_some, reduceIte, Option.bind_some, Option.bind_none, List.append_nil, List.nil_append, List.cons_append, beq_self_eq_true, h0, h2, ao, d0, d1, d2, d3, d4, c1, c4, z1]
  · refine ⟨L.take (at_ + 1) ++ L.drop at_, ga _ _ (g1 (at_ + 1)) (g2 at_), (by have := k1 (at_ + 1); have := k2 at_; simp only [List.length_append]; omega), ?_⟩
    have d0 : decide (((3 : Nat) : Int) = 0) = false := rfl
    have d1 : decide (((3 : Nat) : Int) = 1) = false := rfl
    have d2 : decide (((3 : Nat) : Int) = 2) = false := rfl
    have d3 : decide (((3 : Nat) : Int) = 3) = true := rfl
    have d4 : decide (((3 : Nat) : Int) = 4) = false := rfl
    rw [show (L.take (at_ + 1) ++ L.drop at_).map PyData.str = (L.take (at_ + 1)).map .str ++ (L.drop at_).map .str from List.map_append]
    have w1 := m1 (at_ + 1)
    have w2 := m2 at_
    have z1 : ((L.take (at_ + 1)).map PyData.str).length + ((L.drop at_).map PyData.str).length ≤ 1000000 := by omega
    generalize (L.take (at_ + 1)).map PyData.str = A at *
    generalize (L.drop at_).map PyData.str = B at *
    generalize L.map PyData.str = LD at *
    unfold chgL
    generalize oddL.map PyData.str = OD at *
    simp only [VT, oS, List.getElem?_cons_zero, List.getElem?_cons_succ, List.set_cons_succ, List.set_cons_zero, List.length_cons, List.length_nil, Nat.reduceAdd, Nat.reduceLT, Nat.reduceLeDiff, Nat.reduceEqDiff, if_true, if_false, List.map_cons, List.map_nil, Option.map_some, reduceIte, Option.bind_some, Option.bind_none, List.append_nil, List.nil_append, List.cons_append, beq_self_eq_true, h0, h2, ao, d0, d1, d2, d3, d4, c3, c2, z1]
  · refine ⟨L.take at_, g1 at_, (by have := k1 at_; omega), ?_⟩
    have d0 : decide (((4 : Nat) : Int) = 0) = false := rfl
    have d1 : decide (((4 : Nat) : Int) = 1) = false := rfl
    have d2 : decide (((4 : Nat) : Int) = 2) = false := rfl
    have d3 : decide (((4 : Nat) : Int) = 3) = false := rfl
    have d4 : decide (((4 : Nat) : Int) = 4) = true := rfl
    generalize (L.take at_).map PyData.str = A at *
    generalize L.map PyData.str = LD at *
    unfold chgL
    generalize oddL.map PyData.str = OD at *
    simp only [VT, oS, List.getElem?_cons_zero, List.getElem?_cons_succ, List.set_cons_succ, List.set_cons_zero, List.length_cons, List.length_nil, Nat.reduceAdd, Nat.reduceLT, Nat.reduceLeDiff, Nat.reduceEqDiff, if_true, if_false, List.map_cons, List.map_nil, Option.map_some, reduceIte, Option.bind_some, Option.bind_none, List.append_nil, List.nil_append, List.cons_append, beq_self_eq_true, h0, h2, ao, d0, d1, d2, d3, d4, c1]
  · refine ⟨L ++ [oddL[a2]], ga _ _ hG g3, (by simp only [List.length_append, List.length_singleton]; omega), ?_⟩
    have d0 : decide (((5 : Nat) : Int) = 0) = false := rfl
    have d1 : decide (((5 : Nat) : Int) = 1) = false := rfl
    have d2 : decide (((5 : Nat) : Int) = 2) = false := rfl
    have d3 : decide (((5 : Nat) : Int) = 3) = false := rfl
    have d4 : decide (((5 : Nat) : Int) = 4) = false := rfl
    rw [show (L ++ [oddL[a2]]).map PyData.str = L.map .str ++ [.str oddL[a2]] by rw [List.map_append]; rfl]
    have z1 : (L.map PyData.str).length + 1 ≤ 1000000 := by omega
    generalize L.map PyData.str = LD at *
    unfold chgL
    generalize oddL.map PyData.str = OD at *
    simp only [VT, oS, List.getElem?_cons_zero, List.getElem?_cons_succ, List.set_cons_succ, List.set_cons_zero, List.length_cons, List.length_nil, Nat.reduceAdd, Nat.reduceLT, Nat.reduceLeDiff, Nat.reduceEqDiff, if_true, if_false, List.map_cons, List.map_nil, Option.map_some, reduceIte, Option.bind_some, Option.bind_none, List.append_nil, List.nil_append, List.cons_append, beq_self_eq_true, h0, h2, ao, d0, d1, d2, d3, d4, z1]
theorem turn_ok (ns : List Int) (x : Nat) (e3 e4 e5 e6 e7 e8 e9 e10 : Option RV) : Turn (L2_law [some (.sc ns), some (.ol (oddL.map .str)), some (.d (.int (x : Int))), e3, e4, e5, e6, e7, e8, e9, e10]) (some (.sc ns)) (some (.ol (oddL.map .str))) (some (.d (.int (x : Int)))) := by
  obtain ⟨m, n, ss, os, pe, g⟩ := program_t ns (8 * x)
  rw [show ((8 * x : Nat) : Int) = 8 * (x : Int) by omega] at pe
  obtain ⟨nd, ed, hl, hb⟩ := draw_nat ns (8 * x + 7) [6, 11, 44, 2] (by decide) (by decide)
  rw [show ((8 * x + 7 : Nat) : Int) = 8 * (x : Int) + 7 by omega] at ed
  have ed : F__law_draw [.sc ns, .d (.int (8 * (x : Int) + 7)), .d (.list [.int 6, .int 11, .int 44, .int 2])] = .ok (.ol (nd.map natI)) := ed
  obtain ⟨p0, q0, b0⟩ := hb 0 6 rfl
  obtain ⟨p1, q1, b1⟩ := hb 1 11 rfl
  obtain ⟨p2, q2, b2⟩ := hb 2 44 rfl
  obtain ⟨p3, q3, b3⟩ := hb 3 2 rfl
  have a0 : atI (nd.map natI) 0 = some (.int (p0 : Int)) := atI_nats (i := 0) q0
  have a1 : atI (nd.map natI) 1 = some (.int (p1 : Int)) := atI_nats (i := 1) q1
  have a2 : atI (nd.map natI) 2 = some (.int (p2 : Int)) := atI_nats (i := 2) q2
  have a3 : atI (nd.map natI) 3 = some (.int (p3 : Int)) := atI_nats (i := 3) q3
  have li := lines_ok g
  have h8 := g.s8
  have hLn : (lns m n ss os).length = ss.length + 3 := lns_len m n ss os
  have hL := g.gl
  generalize lns m n ss os = L at *
  have lL : (L.map PyData.str).length = L.length := List.length_map _
  have lz : L.length ≤ 1000000 := by omega
  have hpos : (0 : Int) < (L.length : Int) := by omega
  have hm : (p1 : Int) % (L.length : Int) = ((p1 % L.length : Nat) : Int) := by omega
  obtain ⟨L', gL', zL', ch⟩ := chg_ok L hL (by omega) (at_ := p1 % L.length) (Nat.mod_lt _ (by omega)) a0 b0 a2 b2 (some (.sc ns)) (some (.d (.int (x : Int)))) (some (.d (progT m n ss os))) e7 e8 e9 e10
  have T := mid_ok L' gL' zL' a3 (by omega) (some (.sc ns)) (some (.ol (oddL.map .str))) (some (.d (.int (x : Int)))) (some (.d (progT m n ss os))) (some (.d (.int ((p1 % L.length : Nat) : Int)))) e7 e8 e9 e10
  have m8 : (8 : Int).natAbs < 18446744073709551616 ∨ ((x : Int)).natAbs < 18446744073709551616 := .inl (by decide)
  have st : L2_law [some (.sc ns), some (.ol (oddL.map .str)), some (.d (.int (x : Int))), e3, e4, e5, e6, e7, e8, e9, e10] = sSeq jL (sSeq kL (sSeq dL (sSeq dueL (sSeq tryL finL)))) [some (.sc ns), some (.ol (oddL.map .str)), some (.d (.int (x : Int))), some (.d (progT m n ss os)), some (.ol (L'.map .str)), some (.ol (nd.map natI)), some (.d (.int ((p1 % L.length : Nat) : Int))), e7, e8, e9, e10] := by
    rw [L2_eq]
    generalize hK : sSeq jL (sSeq kL (sSeq dL (sSeq dueL (sSeq tryL finL)))) = K at *
    rw [e_seq aL]
    unfold aL bL cL atL
    generalize L'.map PyData.str = LD' at *
    generalize L.map PyData.str = LD at *
    generalize oddL.map PyData.str = OD at *
    generalize nd.map natI = ND at *
    generalize progT m n ss os = P at *
    simp only [VT, oS, List.getElem?_cons_zero, List.getElem?_cons_succ, List.set_cons_succ, List.set_cons_zero, List.length_cons, List.length_nil, Nat.reduceAdd, Nat.reduceLT, Nat.reduceLeDiff, Nat.reduceEqDiff, if_true, if_false, List.map_cons, List.map_nil, Option.map_some, reduceIte, Option.bind_some, Option.bind_none, List.append_nil, List.nil_append, List.cons_append, beq_self_eq_true, m8, pe, li, ed, a1, lL, lz, hpos, hm, ch]
  rw [st]
  exact T
theorem odd_a : (cA gList (aC (cC (.str "")) (aC (cC (.str " ")) (aC (cC (.str "mod 7")) (aC (cC (.str "mod 1")) (aC (cC (.str "mod 1001")) (aC (cC (.str "mod 007")) (aC (cC (.str "mod")) (aC (cC (.str "inputs 0")) (aC (cC (.str "inputs 7")) (aC (cC (.str "inputs 2 ")) (aC (cC (.str "inputs 6")) (aC (cC (.str "return")) (aC (cC (.str "return ")) (aC (cC (.str "return s0")) aN))))))))))))))) = fun _ => .ok (.ol (oddA.map .str)) := rfl
theorem odd_b : (cA gList (aC (cC (.str "return s1 s0")) (aC (cC (.str "return s0 s0")) (aC (cC (.str "return s9")) (aC (cC (.str "return x0")) (aC (cC (.str "return 0")) (aC (cC (.str "return s00")) (aC (cC (.str "returns s0")) (aC (cC (.str " return s0")) (aC (cC (.str "s0 = x0 + x0")) (aC (cC (.str "s0 = x0 + x1")) aN))))))))))) = fun _ => .ok (.ol (oddB.map .str)) := rfl
theorem odd_c : (cA gList (aC (cC (.str "s1 = x0 + x0")) (aC (cC (.str "s0 = s0 + x0")) (aC (cC (.str "s1 = s1 * 1")) (aC (cC (.str "s2 = x0 - x9")) (aC (cC (.str "s1 = 1000 + 0")) (aC (cC (.str "s0 = 999 * 1")) (aC (cC (.str "s1  = x0 + x0")) (aC (cC (.str "s1 = x0 / x0")) (aC (cC (.str "s1 = x0 + x")) (aC (cC (.str "s1 = y0 + x0")) aN))))))))))) = fun _ => .ok (.ol (oddC.map .str)) := rfl
theorem odd_d : (cA gList (aC (cC (.str "s1 = x0 +")) (aC (cC (.str "s = x0 + x0")) (aC (cC (.str "s1 := x0 + x0")) (aC (cC (.str "s3 = s2 + s2")) (aC (cC (.str "s7 = s0 * s0")) (aC (cC (.str "s8 = s0 * s0")) (aC (cC (.str "# remark")) (aC (cC (.str "s1 = -1 + x0")) (aC (cC (.str "s1 = 01 + x0")) (aC (cC (.str "s1 = 1000000 + x0")) aN))))))))))) = fun _ => .ok (.ol (oddD.map .str)) := rfl
theorem law_holds (ns : List Int) (h : ns.length ≤ 63) : F_law [.sc ns] = .ok (.d (.bool true)) := by
  have hr : ∀ (e1 e2 e3 e4 e5 e6 e7 e8 e9 e10 : Option RV), ∃ N : Nat, (iR gR1 (aC (cA gMin2 (aC (cC (.int 6)) (aC (cA gMax2 (aC (cC (.int 1)) (aC (c2 gDiv (cA gLen (aC (cV 0) aN)) (cC (.int 8))) aN))) aN))) aN)) [some (.sc ns), e1, e2, e3, e4, e5, e6, e7, e8, e9, e10] = .ok ((List.range N).map natI) := by
    intro e1 e2 e3 e4 e5 e6 e7 e8 e9 e10
    have y8 : (0 : Int) < 8 ∧ (8 : Int).natAbs < 1073741824 := by decide
    have gr : ∀ k : Int, 0 ≤ k → k ≤ 1000 → gR1 [.d (.int k)] = .ok ((List.range k.toNat).map natI) := fun k h0 h1 => by
      rw [e_R1 (by omega), rng_nat]
    have key : ∀ k : Int, 0 ≤ k → k ≤ 1000 → ∃ N : Nat, gR1 [.d (.int k)] = .ok ((List.range N).map natI) := fun k h0 h1 => ⟨_, gr k h0 h1⟩
    simp only [VT, oS, List.getElem?_cons_zero, List.getElem?_cons_succ, List.set_cons_succ, List.set_cons_zero, List.length_cons, List.length_nil, Nat.reduceAdd, Nat.reduceLT, Nat.reduceLeDiff, Nat.reduceEqDiff, if_true, if_false, List.map_cons, List.map_nil, Option.map_some, reduceIte, Option.bind_some, Option.bind_none, List.append_nil, List.nil_append, List.cons_append, beq_self_eq_true, y8]
    refine key _ ?_ ?_
    · split <;> split <;> omega
    · split <;> split <;> omega
  obtain ⟨N, hr⟩ := hr (some (.ol (oddL.map .str))) none none none none none none none none none
  obtain ⟨env', e1, e2, e3, e4, e5, e6, e7, e8, e9, e10, rfl⟩ := loopF_ex (tg := .nm 2) (f := L2_law) (fun i env => ∃ e2 e3 e4 e5 e6 e7 e8 e9 e10, env = [some (.sc ns), some (.ol (oddL.map .str)), e2, e3, e4, e5, e6, e7, e8, e9, e10]) natI (List.range N) [some (.sc ns), some (.ol (oddL.map .str)), none, none, none, none, none, none, none, none, none]
    (fun i env x hx r => by
      obtain ⟨e2, e3, e4, e5, e6, e7, e8, e9, e10, rfl⟩ := r
      obtain ⟨a3, a4, a5, a6, a7, a8, a9, a10, ok⟩ := turn_ok ns x e3 e4 e5 e6 e7 e8 e9 e10
      exact ⟨[some (.sc ns), some (.ol (oddL.map .str)), some (.d (.int (x : Int))), e3, e4, e5, e6, e7, e8, e9, e10], rfl, _, ok, _, _, _, _, _, _, _, _, _, rfl⟩) ⟨none, none, none, none, none, none, none, none, none, rfl⟩
  have y1 : (oddA.map PyData.str).length + (oddB.map PyData.str).length ≤ 1000000 := by decide
  have y2 : (oddA.map PyData.str ++ oddB.map PyData.str).length + (oddC.map PyData.str).length ≤ 1000000 := by decide
  have y3 : (oddA.map PyData.str ++ oddB.map PyData.str ++ oddC.map PyData.str).length + (oddD.map PyData.str).length ≤ 1000000 := by decide
  have eo : oddA.map PyData.str ++ oddB.map PyData.str ++ oddC.map PyData.str ++ oddD.map PyData.str = oddL.map .str := rfl
  show (B_law [some (.sc ns), none, none, none, none, none, none, none, none, none, none]).fin = _
  unfold B_law
  rw [odd_a, odd_b, odd_c, odd_d]
  generalize (iR gR1 (aC (cA gMin2 (aC (cC (.int 6)) (aC (cA gMax2 (aC (cC (.int 1)) (aC (c2 gDiv (cA gLen (aC (cV 0) aN)) (cC (.int 8))) aN))) aN))) aN)) = I at *
  generalize oddL.map PyData.str = OD at *
  generalize oddA.map PyData.str = OA at *
  generalize oddB.map PyData.str = OB at *
  generalize oddC.map PyData.str = OC at *
  generalize oddD.map PyData.str = OD4 at *
  simp only [VT, oS, List.getElem?_cons_zero, List.getElem?_cons_succ, List.set_cons_succ, List.set_cons_zero, List.length_cons, List.length_nil, Nat.reduceAdd, Nat.reduceLT, Nat.reduceLeDiff, Nat.reduceEqDiff, if_true, if_false, List.map_cons, List.map_nil, Option.map_some, reduceIte, Option.bind_some, Option.bind_none, List.append_nil, List.nil_append, List.cons_append, beq_self_eq_true, y1, y2, y3, eo, e_for, hr, e1]
def topS (i : Nat) : Stmt := PySem.Challenge.pw_tidyback_k02_faults_of_texts.main.body.getD i (.Pass ⟨0, 0, 0, 0⟩)
structure Txt (K : PySem.W.Frag) (mg : Str → Option Value) (ca : CA) (a__law_cell a__law_draw a__law_operand a__law_program a__law_lines a__law_number a__law_names a__law_return_fault a__law_formed a__law_known a__law_step_fault a__law_due a_Reader___init__ a_lines_of a_number_of a_number_behind a_looks_like_operand a_Reader_is_operand a_Reader_take_step a_number_in a_Reader_take_modulus a_Reader_take_inputs a_Reader_take_outputs a_Reader_take a_read_program a_law aC_Reader aX_TidyError aX_ProgramError aX_TaskError aX_PlanError aI_ProgramError : Addr) : Prop where
  xg_TidyError : mg "TidyError" = some (.ref aX_TidyError)
  xg_ProgramError : mg "ProgramError" = some (.ref aX_ProgramError)
  xg_TaskError : mg "TaskError" = some (.ref aX_TaskError)
  xg_PlanError : mg "PlanError" = some (.ref aX_PlanError)
  xm_TidyError : ∀ c b, mt_TidyError c = some b → PySem.W.exmOne K (.ref (ca c)) (.ref aX_TidyError) = some b
  xk_ProgramError : ∀ c b, tk_ProgramError c = some b → IsE K (ca c) ∧ PySem.W.kitOne K (.ref (ca c)) (.ref aX_ProgramError) = some b
  xk_ValueError : ∀ c b, tk_ValueError c = some b → IsE K (ca c) ∧ PySem.W.kitOne K (.ref (ca c)) (.type "ValueError") = some b
  xk_TaskError : ∀ c b, tk_TaskError c = some b → IsE K (ca c) ∧ PySem.W.kitOne K (.ref (ca c)) (.ref aX_TaskError) = some b
  xk_PlanError : ∀ c b, tk_PlanError c = some b → IsE K (ca c) ∧ PySem.W.kitOne K (.ref (ca c)) (.ref aX_PlanError) = some b
  xx_what : ∀ c, cs_what c = true → XfC K (ca c) ∧ PySem.W.findIn K (.ref (ca c)) "what" = some none
  xx_line : ∀ c, cs_line c = true → XfC K (ca c) ∧ PySem.W.findIn K (.ref (ca c)) "line" = some none
  xr_ProgramError : mg "ProgramError" = some (.ref (ca 1))
  xo_ProgramError : OexC K (ca 1)
  xi_ProgramError : PySem.W.findIn K (.ref (ca 1)) "__init__" = some (some (.ref aI_ProgramError))
  xt_ProgramError : PySem.W.typeIn K (.ref aI_ProgramError) = some (.type "function")
  xn_ProgramError_line : PySem.W.findIn K (.ref (ca 1)) "line" = some none
  xn_ProgramError_what : PySem.W.findIn K (.ref (ca 1)) "what" = some none
  gc_Reader : mg "Reader" = some (.ref aC_Reader)
  ct_Reader : ClsT K "Reader" aC_Reader
  nf_Reader_inputs : NoAttr K aC_Reader "inputs"
  nf_Reader_modulus : NoAttr K aC_Reader "modulus"
  nf_Reader_outputs : NoAttr K aC_Reader "outputs"
  nf_Reader_steps : NoAttr K aC_Reader "steps"
  mt_Reader_is_operand : Meth K aC_Reader "is_operand" a_Reader_is_operand
  mt_Reader_take : Meth K aC_Reader "take" a_Reader_take
  mt_Reader_take_inputs : Meth K aC_Reader "take_inputs" a_Reader_take_inputs
  mt_Reader_take_modulus : Meth K aC_Reader "take_modulus" a_Reader_take_modulus
  mt_Reader_take_outputs : Meth K aC_Reader "take_outputs" a_Reader_take_outputs
  mt_Reader_take_step : Meth K aC_Reader "take_step" a_Reader_take_step
  mk_Reader : Mk K aC_Reader a_Reader___init__
  g__law_cell : mg "_law_cell" = some (.ref a__law_cell)
  k__law_cell : PySem.W.keepIn K (.ref a__law_cell) = true
  g__law_draw : mg "_law_draw" = some (.ref a__law_draw)
  k__law_draw : PySem.W.keepIn K (.ref a__law_draw) = true
  g__law_operand : mg "_law_operand" = some (.ref a__law_operand)
  k__law_operand : PySem.W.keepIn K (.ref a__law_operand) = true
  g__law_program : mg "_law_program" = some (.ref a__law_program)
  k__law_program : PySem.W.keepIn K (.ref a__law_program) = true
  g__law_lines : mg "_law_lines" = some (.ref a__law_lines)
  k__law_lines : PySem.W.keepIn K (.ref a__law_lines) = true
  g__law_number : mg "_law_number" = some (.ref a__law_number)
  k__law_number : PySem.W.keepIn K (.ref a__law_number) = true
  g__law_names : mg "_law_names" = some (.ref a__law_names)
  k__law_names : PySem.W.keepIn K (.ref a__law_names) = true
  g__law_return_fault : mg "_law_return_fault" = some (.ref a__law_return_fault)
  k__law_return_fault : PySem.W.keepIn K (.ref a__law_return_fault) = true
  g__law_formed : mg "_law_formed" = some (.ref a__law_formed)
  k__law_formed : PySem.W.keepIn K (.ref a__law_formed) = true
  g__law_known : mg "_law_known" = some (.ref a__law_known)
  k__law_known : PySem.W.keepIn K (.ref a__law_known) = true
  g__law_step_fault : mg "_law_step_fault" = some (.ref a__law_step_fault)
  k__law_step_fault : PySem.W.keepIn K (.ref a__law_step_fault) = true
  g__law_due : mg "_law_due" = some (.ref a__law_due)
  k__law_due : PySem.W.keepIn K (.ref a__law_due) = true
  g_lines_of : mg "lines_of" = some (.ref a_lines_of)
  k_lines_of : PySem.W.keepIn K (.ref a_lines_of) = true
  g_number_of : mg "number_of" = some (.ref a_number_of)
  k_number_of : PySem.W.keepIn K (.ref a_number_of) = true
  g_number_behind : mg "number_behind" = some (.ref a_number_behind)
  k_number_behind : PySem.W.keepIn K (.ref a_number_behind) = true
  g_looks_like_operand : mg "looks_like_operand" = some (.ref a_looks_like_operand)
  k_looks_like_operand : PySem.W.keepIn K (.ref a_looks_like_operand) = true
  g_number_in : mg "number_in" = some (.ref a_number_in)
  k_number_in : PySem.W.keepIn K (.ref a_number_in) = true
  g_read_program : mg "read_program" = some (.ref a_read_program)
  k_read_program : PySem.W.keepIn K (.ref a_read_program) = true
  g_law : mg "law" = some (.ref a_law)
  k_law : PySem.W.keepIn K (.ref a_law) = true
  z_ValueError : mg "ValueError" = none
  z_all : mg "all" = none
  z_int : mg "int" = none
  z_isinstance : mg "isinstance" = none
  z_len : mg "len" = none
  z_max : mg "max" = none
  z_min : mg "min" = none
  z_range : mg "range" = none
  z_str : mg "str" = none
  z_tuple : mg "tuple" = none
  c_DIGITS : ∃ t, mg "DIGITS" = some (.str "0123456789" t)
  c_INPUTS : ∃ t, mg "INPUTS" = some (.int 6 t)
  c_MODULUS : ∃ t, mg "MODULUS" = some (.int 1000 t)
  c_OPERATIONS : GTup K mg "OPERATIONS" [.str "+", .str "-", .str "*"]
  c_STEPS : ∃ t, mg "STEPS" = some (.int 8 t)
section
variable {P : Program} {w : World} {K : PySem.W.Frag} {mg : Str → Option Value} {base : Heap} {ca : CA} {a__law_cell a__law_draw a__law_operand a__law_program a__law_lines a__law_number a__law_names a__law_return_fault a__law_formed a__law_known a__law_step_fault a__law_due a_Reader___init__ a_lines_of a_number_of a_number_behind a_looks_like_operand a_Reader_is_operand a_Reader_take_step a_number_in a_Reader_take_modulus a_Reader_take_inputs a_Reader_take_outputs a_Reader_take a_read_program a_law aC_Reader aX_TidyError aX_ProgramError aX_TaskError aX_PlanError aI_ProgramError : Addr}
abbrev sI_ProgramError : Stmt := (clsBody (topS 2)).getD 0 (.Pass ⟨0, 0, 0, 0⟩)
theorem scI_ProgramError : IniS ["self", "line", "what"] ["self", "line", "what"] (defScope sI_ProgramError) := ⟨rfl, rfl, rfl, by decide +kernel, rfl, by decide +kernel, by decide +kernel, by decide +kernel, rfl, rfl⟩
abbrev tini_ProgramError (K : PySem.W.Frag) : TS := tSeq (tOst K "line" (tVar 0) (tVar 1)) (tOst K "what" (tVar 0) (tVar 2))
theorem okX_ProgramError {fd : FuncData} {cc : Addr} {cdv : Value} (I : IniF P K mg (ca 1) aI_ProgramError "__init__" "ProgramError.__init__" (defArgs sI_ProgramError) (defBody sI_ProgramError) (defScope sI_ProgramError) fd cc cdv) : FnOk P w K mg base (L2.CX P w) 1 aI_ProgramError fd ["self", "line", "what"] (spI (ca 1) ["self", "line", "what"] ["self", "line", "what"] (tini_ProgramError K)) :=
  init_ok (k := 0) scI_ProgramError I rfl rfl (fun _ => rfl) (fun _ => rfl) (fun _ => rfl) (fun _ => rfl) (fun _ => rfl) (fun A outer s H E vs hv => ⟨⟨_, pe_var (i := 2) rfl (Or.inl rfl), te_var (by have z : vs.length = 3 := hv; omega)⟩, (pss_cons (ps_ost (pe_var (i := 0) rfl (Or.inl rfl)) (pe_var (i := 1) rfl (Or.inl rfl))) (pss_one (ps_ost (pe_var (i := 0) rfl (Or.inl rfl)) (pe_var (i := 2) rfl (Or.inl rfl)))))⟩)
abbrev s__law_cell : Stmt := topS 20
abbrev n__law_cell : List Str := ["_law_script", "_law_k"]
theorem sc__law_cell : FnScope n__law_cell ["_law_script", "_law_k"] (defScope s__law_cell) := ⟨rfl, rfl, rfl, by decide +kernel, rfl, by decide +kernel, by decide +kernel⟩
theorem ok__law_cell (T : Txt K mg ca a__law_cell a__law_draw a__law_operand a__law_program a__law_lines a__law_number a__law_names a__law_return_fault a__law_formed a__law_known a__law_step_fault a__law_due a_Reader___init__ a_lines_of a_number_of a_number_behind a_looks_like_operand a_Reader_is_operand a_Reader_take_step a_number_in a_Reader_take_modulus a_Reader_take_inputs a_Reader_take_outputs a_Reader_take a_read_program a_law aC_Reader aX_TidyError aX_ProgramError aX_TaskError aX_PlanError aI_ProgramError) {fd : FuncData} (F : Fun K "_law_cell" "_law_cell" s__law_cell a__law_cell fd) : FnOk P w K mg base (L2.CX P w) 1 a__law_cell fd ["_law_script", "_law_k"] (spV K ca 2 F__law_cell) :=
  fn_ok (k := 0) (N := n__law_cell) (body := B__law_cell) F sc__law_cell (fun cdv A outer s H E hr tk hp =>
    (vss_cons (vs_if (vt_cmp op_lt s_lt (vv 1) (ve_callB call_lenA c_len (by rfl) T.z_len (by decide +kernel) (va_cons (vv 0) va_nil)) (nomark _)) (vss_one (vs_ret (ve_ix ix_seq s_ix (vv 0) (vv 1) (fun _ _ => rfl)))) vss_nil)
    (vss_one (vs_ret ve_int))))
abbrev s__law_draw : Stmt := topS 21
abbrev n__law_draw : List Str := ["_law_script", "_law_k", "_law_sizes", "_law_cell_here", "_law_drawn", "_law_size", "_law_mixed", "_law_j"]
theorem sc__law_draw : FnScope n__law_draw ["_law_script", "_law_k", "_law_sizes"] (defScope s__law_draw) := ⟨rfl, rfl, rfl, by decide +kernel, rfl, by decide +kernel, by decide +kernel⟩
theorem ok__law_draw (T : Txt K mg ca a__law_cell a__law_draw a__law_operand a__law_program a__law_lines a__law_number a__law_names a__law_return_fault a__law_formed a__law_known a__law_step_fault a__law_due a_Reader___init__ a_lines_of a_number_of a_number_behind a_looks_like_operand a_Reader_is_operand a_Reader_take_step a_number_in a_Reader_take_modulus a_Reader_take_inputs a_Reader_take_outputs a_Reader_take a_read_program a_law aC_Reader aX_TidyError aX_ProgramError aX_TaskError aX_PlanError aI_ProgramError) {fd__law_cell : FuncData} (G__law_cell : FnOk P w K mg base (L2.CX P w) 1 a__law_cell fd__law_cell ["_law_script", "_law_k"] (spV K ca 2 F__law_cell)) (b__law_cell : Binds K fd__law_cell ["_law_script", "_law_k"] []) {fd : FuncData} (F : Fun K "_law_draw" "_law_draw" s__law_draw a__law_draw fd) : FnOk P w K mg base (L2.CX P w) 2 a__law_draw fd ["_law_script", "_law_k", "_law_sizes"] (spV K ca 3 F__law_draw) :=
  fn_ok (k := 1) (N := n__law_draw) (body := B__law_draw) F sc__law_draw (fun cdv A outer s H E hr tk hp =>
    (vss_cons (vs_set (i := 3) sc__law_draw.nd rfl (Or.inl rfl) (ve_call G__law_cell (hr.mono (by decide)) (by rfl) T.g__law_cell T.k__law_cell b__law_cell tk (va_cons (vv 0) (va_cons (vv 1) va_nil))))
    (vss_cons (vs_if (vt_cmp op_lt s_lt (vv 3) ve_int (nomark _)) (vss_one (vs_set (i := 3) sc__law_draw.nd rfl (Or.inl rfl) (ve_un un_neg s_neg (vv 3)))) vss_nil)
    (vss_cons (vs_set (i := 4) sc__law_draw.nd rfl (Or.inl rfl) (ve_lst va_nil))
    (vss_cons (vs_if (vt_cmp op_ge s_ge (vv 3) (ve_op op_pow s_pow ve_int ve_int) (nomark _)) (vss_cons (vs_set (i := 3) sc__law_draw.nd rfl (Or.inl rfl) (ve_op op_sub s_sub (vv 3) (ve_op op_pow s_pow ve_int ve_int)))
    (vss_cons (vs_for hp rfl (vi_list (vv 2)) (vg_name sc__law_draw.nd rfl (Or.inl rfl)) (vss_cons (vs_app 4 (ve_op op_mod s_mod (vv 3) (vv 5)))
    (vss_one (vs_set (i := 3) sc__law_draw.nd rfl (Or.inl rfl) (ve_op op_fdiv s_div (vv 3) (vv 5))))))
    (vss_one (vs_retv 4)))) vss_nil)
    (vss_cons (vs_set (i := 6) sc__law_draw.nd rfl (Or.inl rfl) (ve_op op_mod s_mod (ve_op op_addA s_add (ve_op op_addA s_add (vv 3) ve_int) (ve_op op_mul s_mul ve_int (vv 1))) ve_int))
    (vss_cons (vs_for hp rfl (vi_range1 (by rfl) T.z_range (va_cons (ve_callB call_lenA c_len (by rfl) T.z_len (by decide +kernel) (va_cons (vv 2) va_nil)) va_nil)) (vg_name sc__law_draw.nd rfl (Or.inl rfl)) (vss_cons (vs_set (i := 6) sc__law_draw.nd rfl (Or.inl rfl) (ve_op op_mod s_mod (ve_op op_addA s_add (ve_op op_addA s_add (ve_op op_mul s_mul (vv 6) ve_int) ve_int) (vv 7)) ve_int))
    (vss_cons (vs_set (i := 6) sc__law_draw.nd rfl (Or.inl rfl) (ve_op op_mod s_mod (ve_op op_addA s_add (ve_op op_mul s_mul (vv 6) ve_int) ve_int) ve_int))
    (vss_one (vs_app 4 (ve_op op_mod s_mod (ve_op op_fdiv s_div (vv 6) ve_int) (ve_ix ix_seq s_ix (vv 2) (vv 7) (fun _ _ => rfl))))))))
    (vss_one (vs_retv 4)))))))))
abbrev s__law_operand : Stmt := topS 22
abbrev n__law_operand : List Str := ["_law_kind", "_law_number_here", "_law_inputs", "_law_step", "_law_modulus"]
theorem sc__law_operand : FnScope n__law_operand ["_law_kind", "_law_number_here", "_law_inputs", "_law_step", "_law_modulus"] (defScope s__law_operand) := ⟨rfl, rfl, rfl, by decide +kernel, rfl, by decide +kernel, by decide +kernel⟩
theorem ok__law_operand (T : Txt K mg ca a__law_cell a__law_draw a__law_operand a__law_program a__law_lines a__law_number a__law_names a__law_return_fault a__law_formed a__law_known a__law_step_fault a__law_due a_Reader___init__ a_lines_of a_number_of a_number_behind a_looks_like_operand a_Reader_is_operand a_Reader_take_step a_number_in a_Reader_take_modulus a_Reader_take_inputs a_Reader_take_outputs a_Reader_take a_read_program a_law aC_Reader aX_TidyError aX_ProgramError aX_TaskError aX_PlanError aI_ProgramError) {fd : FuncData} (F : Fun K "_law_operand" "_law_operand" s__law_operand a__law_operand fd) : FnOk P w K mg base (L2.CX P w) 1 a__law_operand fd ["_law_kind", "_law_number_here", "_law_inputs", "_law_step", "_law_modulus"] (spV K ca 5 F__law_operand) :=
  fn_ok (k := 0) (N := n__law_operand) (body := B__law_operand) F sc__law_operand (fun cdv A outer s H E hr tk hp =>
    (vss_cons (vs_if (vw (vw_or (vt_cmp (op_eqD hr.units) s_eq (vv 0) ve_int (nomark _)) (vw_or1 (vw (vw_and (vt_cmp op_lt s_lt (vv 0) ve_int (nomark _)) (vw_and1 (vt_cmp (op_eqD hr.units) s_eq (vv 3) ve_int (nomark _)))))))) (vss_one (vs_ret (ve_op op_addA s_add ve_str (ve_callTy call_str_int c_str (by rfl) T.z_str (by decide +kernel) (va_cons (ve_op op_mod s_mod (vv 1) (vv 2)) va_nil))))) vss_nil)
    (vss_cons (vs_if (vt_cmp op_lt s_lt (vv 0) ve_int (nomark _)) (vss_one (vs_ret (ve_op op_addA s_add ve_str (ve_callTy call_str_int c_str (by rfl) T.z_str (by decide +kernel) (va_cons (ve_op op_sub s_sub (ve_op op_sub s_sub (vv 3) ve_int) (ve_op op_mod s_mod (vv 1) (ve_callB (call_min2 rfl) c_min2 (by rfl) T.z_min (by decide +kernel) (va_cons (vv 3) (va_cons ve_int va_nil))))) va_nil))))) vss_nil)
    (vss_cons (vs_if (vt_cmp (op_eqD hr.units) s_eq (vv 0) ve_int (nomark _)) (vss_one (vs_ret (ve_callTy call_str_int c_str (by rfl) T.z_str (by decide +kernel) (va_cons (ve_ix ix_seq s_ix (ve_lst (va_cons ve_int (va_cons ve_int (va_cons (ve_op op_sub s_sub (vv 4) ve_int) (va_cons (ve_op op_mod s_mod (vv 1) (vv 4)) va_nil))))) (ve_op op_mod s_mod (vv 1) ve_int) (fun _ _ => rfl)) va_nil)))) vss_nil)
    (vss_one (vs_ret (ve_op op_addA s_add ve_str (ve_callTy call_str_int c_str (by rfl) T.z_str (by decide +kernel) (va_cons (ve_op op_mod s_mod (vv 1) (vv 2)) va_nil)))))))))
abbrev s__law_program : Stmt := topS 23
abbrev n__law_program : List Str := ["_law_script", "_law_at", "_law_head", "_law_modulus", "_law_inputs", "_law_steps", "_law_k", "_law_digits", "_law_left", "_law_right", "_law_step", "_law_outputs"]
theorem sc__law_program : FnScope n__law_program ["_law_script", "_law_at"] (defScope s__law_program) := ⟨rfl, rfl, rfl, by decide +kernel, rfl, by decide +kernel, by decide +kernel⟩
theorem ok__law_program (T : Txt K mg ca a__law_cell a__law_draw a__law_operand a__law_program a__law_lines a__law_number a__law_names a__law_return_fault a__law_formed a__law_known a__law_step_fault a__law_due a_Reader___init__ a_lines_of a_number_of a_number_behind a_looks_like_operand a_Reader_is_operand a_Reader_take_step a_number_in a_Reader_take_modulus a_Reader_take_inputs a_Reader_take_outputs a_Reader_take a_read_program a_law aC_Reader aX_TidyError aX_ProgramError aX_TaskError aX_PlanError aI_ProgramError) {fd__law_draw : FuncData} (G__law_draw : FnOk P w K mg base (L2.CX P w) 2 a__law_draw fd__law_draw ["_law_script", "_law_k", "_law_sizes"] (spV K ca 3 F__law_draw)) (b__law_draw : Binds K fd__law_draw ["_law_script", "_law_k", "_law_sizes"] []) {fd__law_operand : FuncData} (G__law_operand : FnOk P w K mg base (L2.CX P w) 1 a__law_operand fd__law_operand ["_law_kind", "_law_number_here", "_law_inputs", "_law_step", "_law_modulus"] (spV K ca 5 F__law_operand)) (b__law_operand : Binds K fd__law_operand ["_law_kind", "_law_number_here", "_law_inputs", "_law_step", "_law_modulus"] []) {fd : FuncData} (F : Fun K "_law_program" "_law_program" s__law_program a__law_program fd) : FnOk P w K mg base (L2.CX P w) 3 a__law_program fd ["_law_script", "_law_at"] (spV K ca 2 F__law_program) :=
  fn_ok (k := 2) (N := n__law_program) (body := B__law_program) F sc__law_program (fun cdv A outer s H E hr tk hp =>
    (vss_cons (vs_set (i := 2) sc__law_program.nd rfl (Or.inl rfl) (ve_call G__law_draw (hr.mono (by decide)) (by rfl) T.g__law_draw T.k__law_draw b__law_draw tk (va_cons (vv 0) (va_cons (vv 1) (va_cons (ve_lst (va_cons ve_int (va_cons ve_int (va_cons ve_int (va_cons ve_int (va_cons ve_int va_nil)))))) va_nil)))))
    (vss_cons (vs_set (i := 3) sc__law_program.nd rfl (Or.inl rfl) (ve_ix ix_seq s_ix (ve_lst (va_cons ve_int (va_cons ve_int (va_cons ve_int (va_cons ve_int (va_cons ve_int (va_cons ve_int (va_cons ve_int (va_cons ve_int (va_cons (ve_op op_addA s_add ve_int (ve_ix ix_seq s_ix (vv 2) ve_int (fun _ _ => rfl))) va_nil)))))))))) (ve_ix ix_seq s_ix (vv 2) ve_int (fun _ _ => rfl)) (fun _ _ => rfl)))
    (vss_cons (vs_set (i := 4) sc__law_program.nd rfl (Or.inl rfl) (ve_op op_addA s_add ve_int (ve_ix ix_seq s_ix (vv 2) ve_int (fun _ _ => rfl))))
    (vss_cons (vs_set (i := 5) sc__law_program.nd rfl (Or.inl rfl) (ve_lst va_nil))
    (vss_cons (vs_for hp rfl (vi_range1 (by rfl) T.z_range (va_cons (ve_op op_addA s_add ve_int (ve_ix ix_seq s_ix (vv 2) ve_int (fun _ _ => rfl))) va_nil)) (vg_name sc__law_program.nd rfl (Or.inl rfl)) (vss_cons (vs_set (i := 7) sc__law_program.nd rfl (Or.inl rfl) (ve_call G__law_draw (hr.mono (by decide)) (by rfl) T.g__law_draw T.k__law_draw b__law_draw tk (va_cons (vv 0) (va_cons (ve_op op_addA s_add (ve_op op_addA s_add (vv 1) ve_int) (ve_op op_mod s_mod (vv 6) ve_int)) (va_cons (ve_lst (va_cons ve_int (va_cons ve_int (va_cons ve_int (va_cons ve_int (va_cons ve_int va_nil)))))) va_nil)))))
    (vss_cons (vs_fz 4 (vs_set (i := 8) sc__law_program.nd rfl (Or.inl rfl) (ve_call G__law_operand (hr.mono (by decide)) (by rfl) T.g__law_operand T.k__law_operand b__law_operand tk (va_cons (ve_ix ix_seq s_ix (vv 7) ve_int (fun _ _ => rfl)) (va_cons (ve_op op_addA s_add (ve_ix ix_seq s_ix (vv 7) ve_int (fun _ _ => rfl)) (ve_op op_mul s_mul ve_int (vv 6))) (va_cons (vv 4) (va_cons (ve_callB call_lenA c_len (by rfl) T.z_len (by decide +kernel) (va_cons (vv 5) va_nil)) (va_cons (vv 3) va_nil))))))))
    (vss_cons (vs_fz 4 (vs_set (i := 9) sc__law_program.nd rfl (Or.inl rfl) (ve_call G__law_operand (hr.mono (by decide)) (by rfl) T.g__law_operand T.k__law_operand b__law_operand tk (va_cons (ve_ix ix_seq s_ix (vv 7) ve_int (fun _ _ => rfl)) (va_cons (ve_op op_addA s_add (ve_ix ix_seq s_ix (vv 7) ve_int (fun _ _ => rfl)) (ve_op op_mul s_mul ve_int (vv 6))) (va_cons (vv 4) (va_cons (ve_callB call_lenA c_len (by rfl) T.z_len (by decide +kernel) (va_cons (vv 5) va_nil)) (va_cons (vv 3) va_nil))))))))
    (vss_cons (vs_fz 9 (vs_fz 8 (vs_set (i := 10) sc__law_program.nd rfl (Or.inl rfl) (ve_tup (va_cons (ve_ix ix_seq s_ix ve_str (ve_op op_mod s_mod (ve_op op_addA s_add (ve_ix ix_seq s_ix (vv 7) ve_int (fun _ _ => rfl)) (ve_op op_fdiv s_div (vv 6) ve_int)) ve_int) (fun _ _ => rfl)) (va_cons (vv 8) (va_cons (vv 9) va_nil)))))))
    (vss_one (vs_if (vt_cmp (op_notInA (hu65 hr)) s_notIn (vv 10) (vv 5) (by rfl)) (vss_one (vs_app 5 (vv 10))) vss_nil)))))))
    (vss_cons (vs_set (i := 11) sc__law_program.nd rfl (Or.inl rfl) (ve_lst va_nil))
    (vss_cons (vs_for hp rfl (vi_range1 (by rfl) T.z_range (va_cons (ve_callB call_lenA c_len (by rfl) T.z_len (by decide +kernel) (va_cons (vv 5) va_nil)) va_nil)) (vg_name sc__law_program.nd rfl (Or.inl rfl)) (vss_one (vs_if (vt_cmp (op_eqD hr.units) s_eq (ve_op op_mod s_mod (ve_op op_fdiv s_div (ve_ix ix_seq s_ix (vv 2) ve_int (fun _ _ => rfl)) (ve_ix ix_seq s_ix (ve_lst (va_cons ve_int (va_cons ve_int (va_cons ve_int (va_cons ve_int (va_cons ve_int (va_cons ve_int (va_cons ve_int (va_cons ve_int va_nil))))))))) (vv 6) (fun _ _ => rfl))) ve_int) ve_int (nomark _)) (vss_one (vs_app 11 (vv 6))) vss_nil)))
    (vss_cons (vs_if (vt_cmp (op_eqD hr.units) s_eq (ve_callB call_lenA c_len (by rfl) T.z_len (by decide +kernel) (va_cons (vv 11) va_nil)) ve_int (nomark _)) (vss_one (vs_set (i := 11) sc__law_program.nd rfl (Or.inl rfl) (ve_lst (va_cons (ve_op op_sub s_sub (ve_callB call_lenA c_len (by rfl) T.z_len (by decide +kernel) (va_cons (vv 5) va_nil)) ve_int) va_nil)))) vss_nil)
    (vss_one (vs_fz 4 (vs_ret (ve_tup (va_cons (vv 3) (va_cons (vv 4) (va_cons (ve_callTy call_tupN c_tuple (by rfl) T.z_tuple (by decide +kernel) (va_cons (vv 5) va_nil)) (va_cons (ve_callTy call_tupN c_tuple (by rfl) T.z_tuple (by decide +kernel) (va_cons (vv 11) va_nil)) va_nil)))))))))))))))))
abbrev s__law_lines : Stmt := topS 24
abbrev n__law_lines : List Str := ["_law_program_here", "_law_lines_here", "_law_k", "_law_operation", "_law_left", "_law_right", "_law_last", "_law_output"]
theorem sc__law_lines : FnScope n__law_lines ["_law_program_here"] (defScope s__law_lines) := ⟨rfl, rfl, rfl, by decide +kernel, rfl, by decide +kernel, by decide +kernel⟩
theorem ok__law_lines (T : Txt K mg ca a__law_cell a__law_draw a__law_operand a__law_program a__law_lines a__law_number a__law_names a__law_return_fault a__law_formed a__law_known a__law_step_fault a__law_due a_Reader___init__ a_lines_of a_number_of a_number_behind a_looks_like_operand a_Reader_is_operand a_Reader_take_step a_number_in a_Reader_take_modulus a_Reader_take_inputs a_Reader_take_outputs a_Reader_take a_read_program a_law aC_Reader aX_TidyError aX_ProgramError aX_TaskError aX_PlanError aI_ProgramError) {fd : FuncData} (F : Fun K "_law_lines" "_law_lines" s__law_lines a__law_lines fd) : FnOk P w K mg base (L2.CX P w) 1 a__law_lines fd ["_law_program_here"] (spV K ca 1 F__law_lines) :=
  fn_ok (k := 0) (N := n__law_lines) (body := B__law_lines) F sc__law_lines (fun cdv A outer s H E hr tk hp =>
    (vss_cons (vs_set (i := 1) sc__law_lines.nd rfl (Or.inl rfl) (ve_lst (va_cons (ve_op op_addA s_add ve_str (ve_callTy call_str_int c_str (by rfl) T.z_str (by decide +kernel) (va_cons (ve_ix ix_seq s_ix (vv 0) ve_int (fun _ _ => rfl)) va_nil))) (va_cons (ve_op op_addA s_add ve_str (ve_callTy call_str_int c_str (by rfl) T.z_str (by decide +kernel) (va_cons (ve_ix ix_seq s_ix (vv 0) ve_int (fun _ _ => rfl)) va_nil))) va_nil))))
    (vss_cons (vs_for hp rfl (vi_range1 (by rfl) T.z_range (va_cons (ve_callB call_lenA c_len (by rfl) T.z_len (by decide +kernel) (va_cons (ve_ix ix_seq s_ix (vv 0) ve_int (fun _ _ => rfl)) va_nil)) va_nil)) (vg_name sc__law_lines.nd rfl (Or.inl rfl)) (vss_cons (vs_unp (ve_ix ix_seq s_ix (ve_ix ix_seq s_ix (vv 0) ve_int (fun _ _ => rfl)) (vv 2) (fun _ _ => rfl)) (vg_tup rfl (vgs_cons sc__law_lines.nd rfl (Or.inl rfl) (vgs_cons sc__law_lines.nd rfl (Or.inl rfl) (vgs_cons sc__law_lines.nd rfl (Or.inl rfl) vgs_nil)))))
    (vss_one (vs_app 1 (ve_op op_addA s_add (ve_op op_addA s_add (ve_op op_addA s_add (ve_op op_addA s_add (ve_op op_addA s_add (ve_op op_addA s_add (ve_op op_addA s_add ve_str (ve_callTy call_str_int c_str (by rfl) T.z_str (by decide +kernel) (va_cons (vv 2) va_nil))) ve_str) (vv 4)) ve_str) (vv 3)) ve_str) (vv 5))))))
    (vss_cons (vs_set (i := 6) sc__law_lines.nd rfl (Or.inl rfl) ve_str)
    (vss_cons (vs_for hp rfl (vi_any (ve_ix ix_seq s_ix (vv 0) ve_int (fun _ _ => rfl))) (vg_name sc__law_lines.nd rfl (Or.inl rfl)) (vss_one (vs_set (i := 6) sc__law_lines.nd rfl (Or.inl rfl) (ve_op op_addA s_add (ve_op op_addA s_add (vv 6) ve_str) (ve_callTy call_str_int c_str (by rfl) T.z_str (by decide +kernel) (va_cons (vv 7) va_nil))))))
    (vss_one (vs_fz 6 (vs_ret (ve_op op_addA s_add (vv 1) (ve_lst (va_cons (vv 6) va_nil)))))))))))
abbrev s__law_number : Stmt := topS 25
abbrev n__law_number : List Str := ["_law_word", "_law_char"]
theorem sc__law_number : FnScope n__law_number ["_law_word"] (defScope s__law_number) := ⟨rfl, rfl, rfl, by decide +kernel, rfl, by decide +kernel, by decide +kernel⟩
theorem ok__law_number (T : Txt K mg ca a__law_cell a__law_draw a__law_operand a__law_program a__law_lines a__law_number a__law_names a__law_return_fault a__law_formed a__law_known a__law_step_fault a__law_due a_Reader___init__ a_lines_of a_number_of a_number_behind a_looks_like_operand a_Reader_is_operand a_Reader_take_step a_number_in a_Reader_take_modulus a_Reader_take_inputs a_Reader_take_outputs a_Reader_take a_read_program a_law aC_Reader aX_TidyError aX_ProgramError aX_TaskError aX_PlanError aI_ProgramError) {fd : FuncData} (F : Fun K "_law_number" "_law_number" s__law_number a__law_number fd) : FnOk P w K mg base (L2.CX P w) 1 a__law_number fd ["_law_word"] (spV K ca 1 F__law_number) :=
  fn_ok (k := 0) (N := n__law_number) (body := B__law_number) F sc__law_number (fun cdv A outer s H E hr tk hp =>
    (vss_cons (vs_if (vt_not (vt_chain op_le s_le op_le s_le ve_int (ve_callB call_lenA c_len (by rfl) T.z_len (by decide +kernel) (va_cons (vv 0) va_nil)) ve_int)) (vss_one (vs_ret ve_non)) vss_nil)
    (vss_cons (vs_for hp rfl (vi_sg (vv 0)) (vg_name sc__law_number.nd rfl (Or.inl rfl)) (vss_one (vs_if (vt_cmp (op_notInA (hu65 hr)) s_notIn (vv 1) ve_str (by rfl)) (vss_one (vs_ret ve_non)) vss_nil)))
    (vss_cons (vs_if (vw (vw_and (vt_cmp op_gt s_gt (ve_callB call_lenA c_len (by rfl) T.z_len (by decide +kernel) (va_cons (vv 0) va_nil)) ve_int (nomark _)) (vw_and1 (vt_cmp (op_eqD hr.units) s_eq (ve_ix ix_seq s_ix (vv 0) ve_int (fun _ _ => rfl)) ve_str (nomark _))))) (vss_one (vs_ret ve_non)) vss_nil)
    (vss_one (vs_ret (ve_callTy call_int_str c_int (by rfl) T.z_int (by decide +kernel) (va_cons (vv 0) va_nil))))))))
abbrev s__law_names : Stmt := topS 26
abbrev n__law_names : List Str := ["_law_word", "_law_letter"]
theorem sc__law_names : FnScope n__law_names ["_law_word", "_law_letter"] (defScope s__law_names) := ⟨rfl, rfl, rfl, by decide +kernel, rfl, by decide +kernel, by decide +kernel⟩
theorem ok__law_names (T : Txt K mg ca a__law_cell a__law_draw a__law_operand a__law_program a__law_lines a__law_number a__law_names a__law_return_fault a__law_formed a__law_known a__law_step_fault a__law_due a_Reader___init__ a_lines_of a_number_of a_number_behind a_looks_like_operand a_Reader_is_operand a_Reader_take_step a_number_in a_Reader_take_modulus a_Reader_take_inputs a_Reader_take_outputs a_Reader_take a_read_program a_law aC_Reader aX_TidyError aX_ProgramError aX_TaskError aX_PlanError aI_ProgramError) {fd__law_number : FuncData} (G__law_number : FnOk P w K mg base (L2.CX P w) 1 a__law_number fd__law_number ["_law_word"] (spV K ca 1 F__law_number)) (b__law_number : Binds K fd__law_number ["_law_word"] []) {fd : FuncData} (F : Fun K "_law_names" "_law_names" s__law_names a__law_names fd) : FnOk P w K mg base (L2.CX P w) 2 a__law_names fd ["_law_word", "_law_letter"] (spV K ca 2 F__law_names) :=
  fn_ok (k := 1) (N := n__law_names) (body := B__law_names) F sc__law_names (fun cdv A outer s H E hr tk hp =>
    (vss_cons (vs_if (vt_cmp (op_neD hr.units) s_ne (ve_sl (vv 0) vo_none (vo_some ve_int)) (vv 1) (nomark _)) (vss_one (vs_ret ve_non)) vss_nil)
    (vss_one (vs_ret (ve_call G__law_number (hr.mono (by decide)) (by rfl) T.g__law_number T.k__law_number b__law_number tk (va_cons (ve_sl (vv 0) (vo_some ve_int) vo_none) va_nil))))))
abbrev s__law_return_fault : Stmt := topS 30
abbrev n__law_return_fault : List Str := ["_law_words", "_law_many", "_law_outputs", "_law_output", "_law_k", "_law_word"]
theorem sc__law_return_fault : FnScope n__law_return_fault ["_law_words", "_law_many"] (defScope s__law_return_fault) := ⟨rfl, rfl, rfl, by decide +kernel, rfl, by decide +kernel, by decide +kernel⟩
theorem ok__law_return_fault (T : Txt K mg ca a__law_cell a__law_draw a__law_operand a__law_program a__law_lines a__law_number a__law_names a__law_return_fault a__law_formed a__law_known a__law_step_fault a__law_due a_Reader___init__ a_lines_of a_number_of a_number_behind a_looks_like_operand a_Reader_is_operand a_Reader_take_step a_number_in a_Reader_take_modulus a_Reader_take_inputs a_Reader_take_outputs a_Reader_take a_read_program a_law aC_Reader aX_TidyError aX_ProgramError aX_TaskError aX_PlanError aI_ProgramError) {fd__law_names : FuncData} (G__law_names : FnOk P w K mg base (L2.CX P w) 2 a__law_names fd__law_names ["_law_word", "_law_letter"] (spV K ca 2 F__law_names)) (b__law_names : Binds K fd__law_names ["_law_word", "_law_letter"] []) {fd : FuncData} (F : Fun K "_law_return_fault" "_law_return_fault" s__law_return_fault a__law_return_fault fd) : FnOk P w K mg base (L2.CX P w) 3 a__law_return_fault fd ["_law_words", "_law_many"] (spV K ca 2 F__law_return_fault) :=
  fn_ok (k := 2) (N := n__law_return_fault) (body := B__law_return_fault) F sc__law_return_fault (fun cdv A outer s H E hr tk hp =>
    (vss_cons (vs_setLc (i := 2) (own := [("_law_word", 5)]) rfl sc__law_return_fault.nd rfl rfl (sw_true rfl rfl rfl (by decide +kernel)) (vj_any (vv 0)) (blkOk_by (own := [("_law_word", 5)]) (N := n__law_return_fault) (sc := defScope s__law_return_fault) (by decide +kernel)) (by decide) (fun _ _ _ _ _ => (vg_name sc__law_return_fault.nd rfl (Or.inl rfl))) (fun _ _ _ _ _ => vts_nil) (fun _ _ _ _ _ => (ve_call G__law_names (hr.mono (by decide)) (by rfl) T.g__law_names T.k__law_names b__law_names takes0 (va_cons (vv 5) (va_cons ve_str va_nil)))))
    (vss_cons (vs_if (vt_cmp (op_inA (hu65 hr)) s_in ve_non (vv 2) (by rfl)) (vss_one (vs_ret ve_str)) vss_nil)
    (vss_cons (vs_if (vt_cmp (op_eqD hr.units) s_eq (ve_callB call_lenA c_len (by rfl) T.z_len (by decide +kernel) (va_cons (vv 2) va_nil)) ve_int (nomark _)) (vss_one (vs_ret ve_str)) vss_nil)
    (vss_cons (vs_fz 2 (vs_for hp rfl (vi_any (vv 2)) (vg_name sc__law_return_fault.nd rfl (Or.inl rfl)) (vss_one (vs_if (vt_cmp op_ge s_ge (vv 3) (vv 1) (nomark _)) (vss_one (vs_ret ve_str)) vss_nil))))
    (vss_cons (vs_for hp rfl (vi_range2 (by rfl) T.z_range (va_cons ve_int (va_cons (ve_callB call_lenA c_len (by rfl) T.z_len (by decide +kernel) (va_cons (vv 2) va_nil)) va_nil))) (vg_name sc__law_return_fault.nd rfl (Or.inl rfl)) (vss_one (vs_if (vt_cmp op_le s_le (ve_ix ix_seq s_ix (vv 2) (vv 4) (fun _ _ => rfl)) (ve_ix ix_seq s_ix (vv 2) (ve_op op_sub s_sub (vv 4) ve_int) (fun _ _ => rfl)) (nomark _)) (vss_one (vs_ret ve_str)) vss_nil)))
    (vss_one (vs_ret ve_non))))))))
abbrev s__law_formed : Stmt := topS 27
abbrev n__law_formed : List Str := ["_law_word"]
theorem sc__law_formed : FnScope n__law_formed ["_law_word"] (defScope s__law_formed) := ⟨rfl, rfl, rfl, by decide +kernel, rfl, by decide +kernel, by decide +kernel⟩
theorem ok__law_formed (T : Txt K mg ca a__law_cell a__law_draw a__law_operand a__law_program a__law_lines a__law_number a__law_names a__law_return_fault a__law_formed a__law_known a__law_step_fault a__law_due a_Reader___init__ a_lines_of a_number_of a_number_behind a_looks_like_operand a_Reader_is_operand a_Reader_take_step a_number_in a_Reader_take_modulus a_Reader_take_inputs a_Reader_take_outputs a_Reader_take a_read_program a_law aC_Reader aX_TidyError aX_ProgramError aX_TaskError aX_PlanError aI_ProgramError) {fd__law_number : FuncData} (G__law_number : FnOk P w K mg base (L2.CX P w) 1 a__law_number fd__law_number ["_law_word"] (spV K ca 1 F__law_number)) (b__law_number : Binds K fd__law_number ["_law_word"] []) {fd__law_names : FuncData} (G__law_names : FnOk P w K mg base (L2.CX P w) 2 a__law_names fd__law_names ["_law_word", "_law_letter"] (spV K ca 2 F__law_names)) (b__law_names : Binds K fd__law_names ["_law_word", "_law_letter"] []) {fd : FuncData} (F : Fun K "_law_formed" "_law_formed" s__law_formed a__law_formed fd) : FnOk P w K mg base (L2.CX P w) 3 a__law_formed fd ["_law_word"] (spV K ca 1 F__law_formed) :=
  fn_ok (k := 2) (N := n__law_formed) (body := B__law_formed) F sc__law_formed (fun cdv A outer s H E hr tk hp =>
    (vss_one (vs_ret (ve_or (ve_cmp op_notN s_isNot (ve_call G__law_number (hr.mono (by decide)) (by rfl) T.g__law_number T.k__law_number b__law_number tk (va_cons (vv 0) va_nil)) ve_non (nomark _)) (ve_or (ve_cmp op_notN s_isNot (ve_call G__law_names (hr.mono (by decide)) (by rfl) T.g__law_names T.k__law_names b__law_names tk (va_cons (vv 0) (va_cons ve_str va_nil))) ve_non (nomark _)) (ve_one (ve_cmp op_notN s_isNot (ve_call G__law_names (hr.mono (by decide)) (by rfl) T.g__law_names T.k__law_names b__law_names tk (va_cons (vv 0) (va_cons ve_str va_nil))) ve_non (nomark _))))))))
abbrev s__law_known : Stmt := topS 28
abbrev n__law_known : List Str := ["_law_word", "_law_modulus", "_law_inputs", "_law_many"]
theorem sc__law_known : FnScope n__law_known ["_law_word", "_law_modulus", "_law_inputs", "_law_many"] (defScope s__law_known) := ⟨rfl, rfl, rfl, by decide +kernel, rfl, by decide +kernel, by decide +kernel⟩
theorem ok__law_known (T : Txt K mg ca a__law_cell a__law_draw a__law_operand a__law_program a__law_lines a__law_number a__law_names a__law_return_fault a__law_formed a__law_known a__law_step_fault a__law_due a_Reader___init__ a_lines_of a_number_of a_number_behind a_looks_like_operand a_Reader_is_operand a_Reader_take_step a_number_in a_Reader_take_modulus a_Reader_take_inputs a_Reader_take_outputs a_Reader_take a_read_program a_law aC_Reader aX_TidyError aX_ProgramError aX_TaskError aX_PlanError aI_ProgramError) {fd__law_number : FuncData} (G__law_number : FnOk P w K mg base (L2.CX P w) 1 a__law_number fd__law_number ["_law_word"] (spV K ca 1 F__law_number)) (b__law_number : Binds K fd__law_number ["_law_word"] []) {fd__law_names : FuncData} (G__law_names : FnOk P w K mg base (L2.CX P w) 2 a__law_names fd__law_names ["_law_word", "_law_letter"] (spV K ca 2 F__law_names)) (b__law_names : Binds K fd__law_names ["_law_word", "_law_letter"] []) {fd : FuncData} (F : Fun K "_law_known" "_law_known" s__law_known a__law_known fd) : FnOk P w K mg base (L2.CX P w) 3 a__law_known fd ["_law_word", "_law_modulus", "_law_inputs", "_law_many"] (spV K ca 4 F__law_known) :=
  fn_ok (k := 2) (N := n__law_known) (body := B__law_known) F sc__law_known (fun cdv A outer s H E hr tk hp =>
    (vss_cons (vs_if (vt_cmp op_notN s_isNot (ve_call G__law_number (hr.mono (by decide)) (by rfl) T.g__law_number T.k__law_number b__law_number tk (va_cons (vv 0) va_nil)) ve_non (nomark _)) (vss_one (vs_ret (ve_cmp op_lt s_lt (ve_call G__law_number (hr.mono (by decide)) (by rfl) T.g__law_number T.k__law_number b__law_number tk (va_cons (vv 0) va_nil)) (vv 1) (nomark _)))) vss_nil)
    (vss_cons (vs_if (vt_cmp op_notN s_isNot (ve_call G__law_names (hr.mono (by decide)) (by rfl) T.g__law_names T.k__law_names b__law_names tk (va_cons (vv 0) (va_cons ve_str va_nil))) ve_non (nomark _)) (vss_one (vs_ret (ve_cmp op_lt s_lt (ve_call G__law_names (hr.mono (by decide)) (by rfl) T.g__law_names T.k__law_names b__law_names tk (va_cons (vv 0) (va_cons ve_str va_nil))) (vv 2) (nomark _)))) vss_nil)
    (vss_one (vs_ret (ve_cmp op_lt s_lt (ve_call G__law_names (hr.mono (by decide)) (by rfl) T.g__law_names T.k__law_names b__law_names tk (va_cons (vv 0) (va_cons ve_str va_nil))) (vv 3) (nomark _)))))))
abbrev s__law_step_fault : Stmt := topS 29
abbrev n__law_step_fault : List Str := ["_law_words", "_law_modulus", "_law_inputs", "_law_steps"]
theorem sc__law_step_fault : FnScope n__law_step_fault ["_law_words", "_law_modulus", "_law_inputs", "_law_steps"] (defScope s__law_step_fault) := ⟨rfl, rfl, rfl, by decide +kernel, rfl, by decide +kernel, by decide +kernel⟩
theorem ok__law_step_fault (T : Txt K mg ca a__law_cell a__law_draw a__law_operand a__law_program a__law_lines a__law_number a__law_names a__law_return_fault a__law_formed a__law_known a__law_step_fault a__law_due a_Reader___init__ a_lines_of a_number_of a_number_behind a_looks_like_operand a_Reader_is_operand a_Reader_take_step a_number_in a_Reader_take_modulus a_Reader_take_inputs a_Reader_take_outputs a_Reader_take a_read_program a_law aC_Reader aX_TidyError aX_ProgramError aX_TaskError aX_PlanError aI_ProgramError) {fd__law_names : FuncData} (G__law_names : FnOk P w K mg base (L2.CX P w) 2 a__law_names fd__law_names ["_law_word", "_law_letter"] (spV K ca 2 F__law_names)) (b__law_names : Binds K fd__law_names ["_law_word", "_law_letter"] []) {fd__law_formed : FuncData} (G__law_formed : FnOk P w K mg base (L2.CX P w) 3 a__law_formed fd__law_formed ["_law_word"] (spV K ca 1 F__law_formed)) (b__law_formed : Binds K fd__law_formed ["_law_word"] []) {fd__law_known : FuncData} (G__law_known : FnOk P w K mg base (L2.CX P w) 3 a__law_known fd__law_known ["_law_word", "_law_modulus", "_law_inputs", "_law_many"] (spV K ca 4 F__law_known)) (b__law_known : Binds K fd__law_known ["_law_word", "_law_modulus", "_law_inputs", "_law_many"] []) {fd : FuncData} (F : Fun K "_law_step_fault" "_law_step_fault" s__law_step_fault a__law_step_fault fd) : FnOk P w K mg base (L2.CX P w) 4 a__law_step_fault fd ["_law_words", "_law_modulus", "_law_inputs", "_law_steps"] (spV K ca 4 F__law_step_fault) :=
  fn_ok (k := 3) (N := n__law_step_fault) (body := B__law_step_fault) F sc__law_step_fault (fun cdv A outer s H E hr tk hp =>
    (vss_cons (vs_if (vw (vw_or (vt_cmp (op_neD hr.units) s_ne (ve_callB call_lenA c_len (by rfl) T.z_len (by decide +kernel) (va_cons (vv 0) va_nil)) ve_int (nomark _)) (vw_or (vt_cmp op_isN s_is (ve_call G__law_names (hr.mono (by decide)) (by rfl) T.g__law_names T.k__law_names b__law_names tk (va_cons (ve_ix ix_seq s_ix (vv 0) ve_int (fun _ _ => rfl)) (va_cons ve_str va_nil))) ve_non (nomark _)) (vw_or (vt_cmp (op_neD hr.units) s_ne (ve_ix ix_seq s_ix (vv 0) ve_int (fun _ _ => rfl)) ve_str (nomark _)) (vw_or1 (vt_cmp (op_notInA (hu65 hr)) s_notIn (ve_ix ix_seq s_ix (vv 0) ve_int (fun _ _ => rfl)) (ve_lst (va_cons ve_str (va_cons ve_str (va_cons ve_str va_nil)))) (by rfl))))))) (vss_one (vs_ret ve_str)) vss_nil)
    (vss_cons (vs_if (vw (vw_or (vt_not (vt_val (ve_call G__law_formed (hr.mono (by decide)) (by rfl) T.g__law_formed T.k__law_formed b__law_formed tk (va_cons (ve_ix ix_seq s_ix (vv 0) ve_int (fun _ _ => rfl)) va_nil)))) (vw_or1 (vt_not (vt_val (ve_call G__law_formed (hr.mono (by decide)) (by rfl) T.g__law_formed T.k__law_formed b__law_formed tk (va_cons (ve_ix ix_seq s_ix (vv 0) ve_int (fun _ _ => rfl)) va_nil))))))) (vss_one (vs_ret ve_str)) vss_nil)
    (vss_cons (vs_if (vt_cmp op_ge s_ge (ve_callB call_lenA c_len (by rfl) T.z_len (by decide +kernel) (va_cons (vv 3) va_nil)) ve_int (nomark _)) (vss_one (vs_ret ve_str)) vss_nil)
    (vss_cons (vs_if (vt_cmp (op_neD hr.units) s_ne (ve_call G__law_names (hr.mono (by decide)) (by rfl) T.g__law_names T.k__law_names b__law_names tk (va_cons (ve_ix ix_seq s_ix (vv 0) ve_int (fun _ _ => rfl)) (va_cons ve_str va_nil))) (ve_callB call_lenA c_len (by rfl) T.z_len (by decide +kernel) (va_cons (vv 3) va_nil)) (nomark _)) (vss_one (vs_ret ve_str)) vss_nil)
    (vss_cons (vs_if (vw (vw_or (vt_not (vt_val (ve_call G__law_known (hr.mono (by decide)) (by rfl) T.g__law_known T.k__law_known b__law_known tk (va_cons (ve_ix ix_seq s_ix (vv 0) ve_int (fun _ _ => rfl)) (va_cons (vv 1) (va_cons (vv 2) (va_cons (ve_callB call_lenA c_len (by rfl) T.z_len (by decide +kernel) (va_cons (vv 3) va_nil)) va_nil))))))) (vw_or1 (vt_not (vt_val (ve_call G__law_known (hr.mono (by decide)) (by rfl) T.g__law_known T.k__law_known b__law_known tk (va_cons (ve_ix ix_seq s_ix (vv 0) ve_int (fun _ _ => rfl)) (va_cons (vv 1) (va_cons (vv 2) (va_cons (ve_callB call_lenA c_len (by rfl) T.z_len (by decide +kernel) (va_cons (vv 3) va_nil)) va_nil)))))))))) (vss_one (vs_ret ve_str)) vss_nil)
    (vss_cons (vs_if (vt_cmp (op_inA (hu65 hr)) s_in (ve_tup (va_cons (ve_ix ix_seq s_ix (vv 0) ve_int (fun _ _ => rfl)) (va_cons (ve_ix ix_seq s_ix (vv 0) ve_int (fun _ _ => rfl)) (va_cons (ve_ix ix_seq s_ix (vv 0) ve_int (fun _ _ => rfl)) va_nil)))) (vv 3) (by rfl)) (vss_one (vs_ret ve_str)) vss_nil)
    (vss_one (vs_ret ve_non)))))))))
abbrev s__law_due : Stmt := topS 31
abbrev n__law_due : List Str := ["_law_lines_here", "_law_steps", "_law_modulus", "_law_inputs", "_law_k", "_law_words", "_law_number_here", "_law_what"]
theorem sc__law_due : FnScope n__law_due ["_law_lines_here"] (defScope s__law_due) := ⟨rfl, rfl, rfl, by decide +kernel, rfl, by decide +kernel, by decide +kernel⟩
theorem ok__law_due (T : Txt K mg ca a__law_cell a__law_draw a__law_operand a__law_program a__law_lines a__law_number a__law_names a__law_return_fault a__law_formed a__law_known a__law_step_fault a__law_due a_Reader___init__ a_lines_of a_number_of a_number_behind a_looks_like_operand a_Reader_is_operand a_Reader_take_step a_number_in a_Reader_take_modulus a_Reader_take_inputs a_Reader_take_outputs a_Reader_take a_read_program a_law aC_Reader aX_TidyError aX_ProgramError aX_TaskError aX_PlanError aI_ProgramError) {fd__law_number : FuncData} (G__law_number : FnOk P w K mg base (L2.CX P w) 1 a__law_number fd__law_number ["_law_word"] (spV K ca 1 F__law_number)) (b__law_number : Binds K fd__law_number ["_law_word"] []) {fd__law_return_fault : FuncData} (G__law_return_fault : FnOk P w K mg base (L2.CX P w) 3 a__law_return_fault fd__law_return_fault ["_law_words", "_law_many"] (spV K ca 2 F__law_return_fault)) (b__law_return_fault : Binds K fd__law_return_fault ["_law_words", "_law_many"] []) {fd__law_step_fault : FuncData} (G__law_step_fault : FnOk P w K mg base (L2.CX P w) 4 a__law_step_fault fd__law_step_fault ["_law_words", "_law_modulus", "_law_inputs", "_law_steps"] (spV K ca 4 F__law_step_fault)) (b__law_step_fault : Binds K fd__law_step_fault ["_law_words", "_law_modulus", "_law_inputs", "_law_steps"] []) {fd : FuncData} (F : Fun K "_law_due" "_law_due" s__law_due a__law_due fd) : FnOk P w K mg base (L2.CX P w) 5 a__law_due fd ["_law_lines_here"] (spV K ca 1 F__law_due) :=
  fn_ok (k := 4) (N := n__law_due) (body := B__law_due) F sc__law_due (fun cdv A outer s H E hr tk hp =>
    (vss_cons (vs_set (i := 1) sc__law_due.nd rfl (Or.inl rfl) (ve_lst va_nil))
    (vss_cons (vs_set (i := 2) sc__law_due.nd rfl (Or.inl rfl) ve_int)
    (vss_cons (vs_set (i := 3) sc__law_due.nd rfl (Or.inl rfl) ve_int)
    (vss_cons (vs_for hp rfl (vi_range1 (by rfl) T.z_range (va_cons (ve_callB call_lenA c_len (by rfl) T.z_len (by decide +kernel) (va_cons (vv 0) va_nil)) va_nil)) (vg_name sc__law_due.nd rfl (Or.inl rfl)) (vss_cons (vs_set (i := 5) sc__law_due.nd rfl (Or.inl rfl) (ve_split (ve_ix ix_seq s_ix (vv 0) (vv 4) (fun _ _ => rfl)) ve_str))
    (vss_cons (vs_set (i := 6) sc__law_due.nd rfl (Or.inl rfl) ve_non)
    (vss_cons (vs_if (vt_cmp (op_eqD hr.units) s_eq (ve_callB call_lenA c_len (by rfl) T.z_len (by decide +kernel) (va_cons (vv 5) va_nil)) ve_int (nomark _)) (vss_one (vs_set (i := 6) sc__law_due.nd rfl (Or.inl rfl) (ve_call G__law_number (hr.mono (by decide)) (by rfl) T.g__law_number T.k__law_number b__law_number tk (va_cons (ve_ix ix_seq s_ix (vv 5) ve_int (fun _ _ => rfl)) va_nil)))) vss_nil)
    (vss_one (vs_if (vt_cmp (op_eqD hr.units) s_eq (vv 4) ve_int (nomark _)) (vss_cons (vs_if (vw (vw_or (vt_cmp (op_neD hr.units) s_ne (ve_ix ix_seq s_ix (vv 5) ve_int (fun _ _ => rfl)) ve_str (nomark _)) (vw_or (vt_cmp op_isN s_is (vv 6) ve_non (nomark _)) (vw_or1 (vt_not (vt_chain op_le s_le op_le s_le ve_int (vv 6) ve_int)))))) (vss_one (vs_ret (ve_tup (va_cons ve_int (va_cons ve_str va_nil))))) vss_nil)
    (vss_one (vs_fz 6 (vs_set (i := 2) sc__law_due.nd rfl (Or.inl rfl) (vv 6))))) (vss_one (vs_if (vt_cmp (op_eqD hr.units) s_eq (vv 4) ve_int (nomark _)) (vss_cons (vs_if (vw (vw_or (vt_cmp (op_neD hr.units) s_ne (ve_ix ix_seq s_ix (vv 5) ve_int (fun _ _ => rfl)) ve_str (nomark _)) (vw_or (vt_cmp op_isN s_is (vv 6) ve_non (nomark _)) (vw_or1 (vt_not (vt_chain op_le s_le op_le s_le ve_int (vv 6) ve_int)))))) (vss_one (vs_ret (ve_tup (va_cons ve_int (va_cons ve_str va_nil))))) vss_nil)
    (vss_one (vs_fz 6 (vs_set (i := 3) sc__law_due.nd rfl (Or.inl rfl) (vv 6))))) (vss_one (vs_if (vt_cmp (op_eqD hr.units) s_eq (ve_ix ix_seq s_ix (vv 5) ve_int (fun _ _ => rfl)) ve_str (nomark _)) (vss_cons (vs_set (i := 7) sc__law_due.nd rfl (Or.inl rfl) (ve_call G__law_return_fault (hr.mono (by decide)) (by rfl) T.g__law_return_fault T.k__law_return_fault b__law_return_fault tk (va_cons (ve_sl (vv 5) (vo_some ve_int) vo_none) (va_cons (ve_callB call_lenA c_len (by rfl) T.z_len (by decide +kernel) (va_cons (vv 1) va_nil)) va_nil))))
    (vss_cons (vs_if (vt_cmp op_notN s_isNot (vv 7) ve_non (nomark _)) (vss_one (vs_fz 7 (vs_ret (ve_tup (va_cons (ve_op op_addA s_add (vv 4) ve_int) (va_cons (vv 7) va_nil)))))) vss_nil)
    (vss_cons (vs_if (vt_cmp op_lt s_lt (ve_op op_addA s_add (vv 4) ve_int) (ve_callB call_lenA c_len (by rfl) T.z_len (by decide +kernel) (va_cons (vv 0) va_nil)) (nomark _)) (vss_one (vs_ret (ve_tup (va_cons (ve_op op_addA s_add (vv 4) ve_int) (va_cons ve_str va_nil))))) vss_nil)
    (vss_one (vs_ret ve_non))))) (vss_cons (vs_fz 3 (vs_fz 2 (vs_fz 5 (vs_set (i := 7) sc__law_due.nd rfl (Or.inl rfl) (ve_call G__law_step_fault (hr.mono (by decide)) (by rfl) T.g__law_step_fault T.k__law_step_fault b__law_step_fault tk (va_cons (vv 5) (va_cons (vv 2) (va_cons (vv 3) (va_cons (vv 1) va_nil)))))))))
    (vss_cons (vs_if (vt_cmp op_notN s_isNot (vv 7) ve_non (nomark _)) (vss_one (vs_fz 7 (vs_ret (ve_tup (va_cons (ve_op op_addA s_add (vv 4) ve_int) (va_cons (vv 7) va_nil)))))) vss_nil)
    (vss_one (vs_app 1 (ve_tup (va_cons (ve_ix ix_seq s_ix (vv 5) ve_int (fun _ _ => rfl)) (va_cons (ve_ix ix_seq s_ix (vv 5) ve_int (fun _ _ => rfl)) (va_cons (ve_ix ix_seq s_ix (vv 5) ve_int (fun _ _ => rfl)) va_nil))))))))))))))))))
    (vss_one (vs_ret (ve_tup (va_cons (ve_op op_addA s_add (ve_callB call_lenA c_len (by rfl) T.z_len (by decide +kernel) (va_cons (vv 0) va_nil)) ve_int) (va_cons (ve_ix ix_seq s_ix (ve_lst (va_cons ve_str (va_cons ve_str (va_cons ve_str va_nil)))) (ve_callB (call_min2 rfl) c_min2 (by rfl) T.z_min (by decide +kernel) (va_cons ve_int (va_cons (ve_callB call_lenA c_len (by rfl) T.z_len (by decide +kernel) (va_cons (vv 0) va_nil)) va_nil))) (fun _ _ => rfl)) va_nil))))))))))
abbrev s_Reader___init__ : Stmt := (clsBody (topS 17)).getD 0 (.Pass ⟨0, 0, 0, 0⟩)
abbrev n_Reader___init__ : List Str := ["self"]
theorem sc_Reader___init__ : FnScope n_Reader___init__ ["self"] (defScope s_Reader___init__) := ⟨rfl, rfl, rfl, by decide +kernel, rfl, by decide +kernel, by decide +kernel⟩
theorem ok_Reader___init__ (T : Txt K mg ca a__law_cell a__law_draw a__law_operand a__law_program a__law_lines a__law_number a__law_names a__law_return_fault a__law_formed a__law_known a__law_step_fault a__law_due a_Reader___init__ a_lines_of a_number_of a_number_behind a_looks_like_operand a_Reader_is_operand a_Reader_take_step a_number_in a_Reader_take_modulus a_Reader_take_inputs a_Reader_take_outputs a_Reader_take a_read_program a_law aC_Reader aX_TidyError aX_ProgramError aX_TaskError aX_PlanError aI_ProgramError) {fd : FuncData} (F : Fun K "__init__" "Reader.__init__" s_Reader___init__ a_Reader___init__ fd) : FnOk P w K mg base (L2.CX P w) 1 a_Reader___init__ fd ["self"] (spM K ca 1 F_Reader___init__) :=
  fn_okM (k := 0) (N := n_Reader___init__) (body := B_Reader___init__) F sc_Reader___init__ (fun cdv A outer s H E hr tk hp =>
    (vss_cons (vs_fldS false 0 T.ct_Reader T.nf_Reader_modulus ve_int)
    (vss_cons (vs_fldS false 0 T.ct_Reader T.nf_Reader_inputs ve_int)
    (vss_cons (vs_fldS true 0 T.ct_Reader T.nf_Reader_steps (ve_lst va_nil))
    (vss_one (vs_fldS false 0 T.ct_Reader T.nf_Reader_outputs ve_non))))))
abbrev s_lines_of : Stmt := topS 11
abbrev n_lines_of : List Str := ["text", "lines"]
theorem sc_lines_of : FnScope n_lines_of ["text"] (defScope s_lines_of) := ⟨rfl, rfl, rfl, by decide +kernel, rfl, by decide +kernel, by decide +kernel⟩
theorem ok_lines_of (T : Txt K mg ca a__law_cell a__law_draw a__law_operand a__law_program a__law_lines a__law_number a__law_names a__law_return_fault a__law_formed a__law_known a__law_step_fault a__law_due a_Reader___init__ a_lines_of a_number_of a_number_behind a_looks_like_operand a_Reader_is_operand a_Reader_take_step a_number_in a_Reader_take_modulus a_Reader_take_inputs a_Reader_take_outputs a_Reader_take a_read_program a_law aC_Reader aX_TidyError aX_ProgramError aX_TaskError aX_PlanError aI_ProgramError) {fd : FuncData} (F : Fun K "lines_of" "lines_of" s_lines_of a_lines_of fd) : FnOk P w K mg base (L2.CX P w) 1 a_lines_of fd ["text"] (spV K ca 1 F_lines_of) :=
  fn_ok (k := 0) (N := n_lines_of) (body := B_lines_of) F sc_lines_of (fun cdv A outer s H E hr tk hp =>
    (vss_cons (vs_set (i := 1) sc_lines_of.nd rfl (Or.inl rfl) (ve_split (vv 0) ve_str))
    (vss_cons (vs_if (vt_cmp (op_eqD hr.units) s_eq (ve_ix ix_seq s_ix (vv 1) (ve_un un_neg s_neg ve_int) (fun _ _ => rfl)) ve_str (nomark _)) (vss_one (vs_ret (ve_sl (vv 1) vo_none (vo_some (ve_un un_neg s_neg ve_int))))) vss_nil)
    (vss_one (vs_retv 1)))))
abbrev s_number_of : Stmt := topS 10
abbrev n_number_of : List Str := ["word"]
theorem sc_number_of : FnScope n_number_of ["word"] (defScope s_number_of) := ⟨rfl, rfl, rfl, by decide +kernel, rfl, by decide +kernel, by decide +kernel⟩
theorem ok_number_of (T : Txt K mg ca a__law_cell a__law_draw a__law_operand a__law_program a__law_lines a__law_number a__law_names a__law_return_fault a__law_formed a__law_known a__law_step_fault a__law_due a_Reader___init__ a_lines_of a_number_of a_number_behind a_looks_like_operand a_Reader_is_operand a_Reader_take_step a_number_in a_Reader_take_modulus a_Reader_take_inputs a_Reader_take_outputs a_Reader_take a_read_program a_law aC_Reader aX_TidyError aX_ProgramError aX_TaskError aX_PlanError aI_ProgramError) {fd : FuncData} (F : Fun K "number_of" "number_of" s_number_of a_number_of fd) {ct Pt : Addr} (TB : GxR.TabB base mg ct Pt) (hPt : Pt ∈ ca.T) (hct : fd.code = .ref ct) : FnOk P w K mg base (L2.CX P w) 1 a_number_of fd ["word"] (spV K ca 1 F_number_of) :=
  fn_okT (k := 0) (N := n_number_of) (body := B_number_of) F sc_number_of (fun A outer s H E hr tk hp =>
    (vss_cons (vs_if (vw (vw_or (vt_not (vt_chain op_le s_le op_le s_le ve_int (ve_callB call_lenA c_len (by rfl) T.z_len (by decide +kernel) (va_cons (vv 0) va_nil)) ve_int)) (vw_or1 (vt_not (vt_val (ve_allC hr (by rfl) T.z_all rfl TB hPt hct (genS_by (sc := defScope s_number_of) (L := s.heap.objs.size + 1) rfl rfl rfl (by decide +kernel) rfl rfl (by decide +kernel)) (vv 0) T.c_DIGITS.choose_spec rfl (fun _ => by rfl))))))) (vss_one (vs_ret ve_non)) vss_nil)
    (vss_cons (vs_if (vw (vw_and (vt_cmp op_gt s_gt (ve_callB call_lenA c_len (by rfl) T.z_len (by decide +kernel) (va_cons (vv 0) va_nil)) ve_int (nomark _)) (vw_and1 (vt_cmp (op_eqD hr.units) s_eq (ve_ix ix_seq s_ix (vv 0) ve_int (fun _ _ => rfl)) ve_str (nomark _))))) (vss_one (vs_ret ve_non)) vss_nil)
    (vss_one (vs_ret (ve_callTy call_int_str c_int (by rfl) T.z_int (by decide +kernel) (va_cons (vv 0) va_nil)))))))
abbrev s_number_behind : Stmt := topS 14
abbrev n_number_behind : List Str := ["letter", "word"]
theorem sc_number_behind : FnScope n_number_behind ["letter", "word"] (defScope s_number_behind) := ⟨rfl, rfl, rfl, by decide +kernel, rfl, by decide +kernel, by decide +kernel⟩
theorem ok_number_behind (T : Txt K mg ca a__law_cell a__law_draw a__law_operand a__law_program a__law_lines a__law_number a__law_names a__law_return_fault a__law_formed a__law_known a__law_step_fault a__law_due a_Reader___init__ a_lines_of a_number_of a_number_behind a_looks_like_operand a_Reader_is_operand a_Reader_take_step a_number_in a_Reader_take_modulus a_Reader_take_inputs a_Reader_take_outputs a_Reader_take a_read_program a_law aC_Reader aX_TidyError aX_ProgramError aX_TaskError aX_PlanError aI_ProgramError) {fd_number_of : FuncData} (G_number_of : FnOk P w K mg base (L2.CX P w) 1 a_number_of fd_number_of ["word"] (spV K ca 1 F_number_of)) (b_number_of : Binds K fd_number_of ["word"] []) {fd : FuncData} (F : Fun K "number_behind" "number_behind" s_number_behind a_number_behind fd) : FnOk P w K mg base (L2.CX P w) 2 a_number_behind fd ["letter", "word"] (spV K ca 2 F_number_behind) :=
  fn_ok (k := 1) (N := n_number_behind) (body := B_number_behind) F sc_number_behind (fun cdv A outer s H E hr tk hp =>
    (vss_cons (vs_if (vt_cmp (op_neD hr.units) s_ne (ve_sl (vv 1) vo_none (vo_some ve_int)) (vv 0) (nomark _)) (vss_one (vs_ret ve_non)) vss_nil)
    (vss_one (vs_ret (ve_call G_number_of (hr.mono (by decide)) (by rfl) T.g_number_of T.k_number_of b_number_of tk (va_cons (ve_sl (vv 1) (vo_some ve_int) vo_none) va_nil))))))
abbrev s_looks_like_operand : Stmt := topS 16
abbrev n_looks_like_operand : List Str := ["word"]
theorem sc_looks_like_operand : FnScope n_looks_like_operand ["word"] (defScope s_looks_like_operand) := ⟨rfl, rfl, rfl, by decide +kernel, rfl, by decide +kernel, by decide +kernel⟩
theorem ok_looks_like_operand (T : Txt K mg ca a__law_cell a__law_draw a__law_operand a__law_program a__law_lines a__law_number a__law_names a__law_return_fault a__law_formed a__law_known a__law_step_fault a__law_due a_Reader___init__ a_lines_of a_number_of a_number_behind a_looks_like_operand a_Reader_is_operand a_Reader_take_step a_number_in a_Reader_take_modulus a_Reader_take_inputs a_Reader_take_outputs a_Reader_take a_read_program a_law aC_Reader aX_TidyError aX_ProgramError aX_TaskError aX_PlanError aI_ProgramError) {fd_number_of : FuncData} (G_number_of : FnOk P w K mg base (L2.CX P w) 1 a_number_of fd_number_of ["word"] (spV K ca 1 F_number_of)) (b_number_of : Binds K fd_number_of ["word"] []) {fd_number_behind : FuncData} (G_number_behind : FnOk P w K mg base (L2.CX P w) 2 a_number_behind fd_number_behind ["letter", "word"] (spV K ca 2 F_number_behind)) (b_number_behind : Binds K fd_number_behind ["letter", "word"] []) {fd : FuncData} (F : Fun K "looks_like_operand" "looks_like_operand" s_looks_like_operand a_looks_like_operand fd) : FnOk P w K mg base (L2.CX P w) 3 a_looks_like_operand fd ["word"] (spV K ca 1 F_looks_like_operand) :=
  fn_ok (k := 2) (N := n_looks_like_operand) (body := B_looks_like_operand) F sc_looks_like_operand (fun cdv A outer s H E hr tk hp =>
    (vss_cons (vs_if (vw (vw_or (vt_cmp op_notN s_isNot (ve_call G_number_of (hr.mono (by decide)) (by rfl) T.g_number_of T.k_number_of b_number_of tk (va_cons (vv 0) va_nil)) ve_non (nomark _)) (vw_or1 (vt_cmp op_notN s_isNot (ve_call G_number_behind (hr.mono (by decide)) (by rfl) T.g_number_behind T.k_number_behind b_number_behind tk (va_cons ve_str (va_cons (vv 0) va_nil))) ve_non (nomark _))))) (vss_one (vs_ret ve_bl)) vss_nil)
    (vss_one (vs_ret (ve_cmp op_notN s_isNot (ve_call G_number_behind (hr.mono (by decide)) (by rfl) T.g_number_behind T.k_number_behind b_number_behind tk (va_cons ve_str (va_cons (vv 0) va_nil))) ve_non (nomark _))))))
abbrev s_Reader_is_operand : Stmt := (clsBody (topS 17)).getD 4 (.Pass ⟨0, 0, 0, 0⟩)
abbrev n_Reader_is_operand : List Str := ["self", "word"]
theorem sc_Reader_is_operand : FnScope n_Reader_is_operand ["self", "word"] (defScope s_Reader_is_operand) := ⟨rfl, rfl, rfl, by decide +kernel, rfl, by decide +kernel, by decide +kernel⟩
theorem ok_Reader_is_operand (T : Txt K mg ca a__law_cell a__law_draw a__law_operand a__law_program a__law_lines a__law_number a__law_names a__law_return_fault a__law_formed a__law_known a__law_step_fault a__law_due a_Reader___init__ a_lines_of a_number_of a_number_behind a_looks_like_operand a_Reader_is_operand a_Reader_take_step a_number_in a_Reader_take_modulus a_Reader_take_inputs a_Reader_take_outputs a_Reader_take a_read_program a_law aC_Reader aX_TidyError aX_ProgramError aX_TaskError aX_PlanError aI_ProgramError) {fd_number_behind : FuncData} (G_number_behind : FnOk P w K mg base (L2.CX P w) 2 a_number_behind fd_number_behind ["letter", "word"] (spV K ca 2 F_number_behind)) (b_number_behind : Binds K fd_number_behind ["letter", "word"] []) {fd_number_of : FuncData} (G_number_of : FnOk P w K mg base (L2.CX P w) 1 a_number_of fd_number_of ["word"] (spV K ca 1 F_number_of)) (b_number_of : Binds K fd_number_of ["word"] []) {fd : FuncData} (F : Fun K "is_operand" "Reader.is_operand" s_Reader_is_operand a_Reader_is_operand fd) : FnOk P w K mg base (L2.CX P w) 3 a_Reader_is_operand fd ["self", "word"] (spV K ca 2 F_Reader_is_operand) :=
  fn_ok (k := 2) (N := n_Reader_is_operand) (body := B_Reader_is_operand) F sc_Reader_is_operand (fun cdv A outer s H E hr tk hp =>
    (vss_cons (vs_if (vt_cmp (op_eqD hr.units) s_eq (ve_ix ix_seq s_ix (vv 1) ve_int (fun _ _ => rfl)) ve_str (nomark _)) (vss_one (vs_ret (ve_cmp op_lt s_lt (ve_call G_number_behind (hr.mono (by decide)) (by rfl) T.g_number_behind T.k_number_behind b_number_behind tk (va_cons ve_str (va_cons (vv 1) va_nil))) (ve_fld 0 T.ct_Reader T.nf_Reader_inputs) (nomark _)))) vss_nil)
    (vss_cons (vs_if (vt_cmp (op_eqD hr.units) s_eq (ve_ix ix_seq s_ix (vv 1) ve_int (fun _ _ => rfl)) ve_str (nomark _)) (vss_one (vs_ret (ve_cmp op_lt s_lt (ve_call G_number_behind (hr.mono (by decide)) (by rfl) T.g_number_behind T.k_number_behind b_number_behind tk (va_cons ve_str (va_cons (vv 1) va_nil))) (ve_callB call_lenA c_len (by rfl) T.z_len (by decide +kernel) (va_cons (ve_fld 0 T.ct_Reader T.nf_Reader_steps) va_nil)) (nomark _)))) vss_nil)
    (vss_one (vs_ret (ve_cmp op_lt s_lt (ve_call G_number_of (hr.mono (by decide)) (by rfl) T.g_number_of T.k_number_of b_number_of tk (va_cons (vv 1) va_nil)) (ve_fld 0 T.ct_Reader T.nf_Reader_modulus) (nomark _)))))))
abbrev s_Reader_take_step : Stmt := (clsBody (topS 17)).getD 5 (.Pass ⟨0, 0, 0, 0⟩)
abbrev n_Reader_take_step : List Str := ["self", "words", "number", "step"]
theorem sc_Reader_take_step : FnScope n_Reader_take_step ["self", "words"] (defScope s_Reader_take_step) := ⟨rfl, rfl, rfl, by decide +kernel, rfl, by decide +kernel, by decide +kernel⟩
theorem ok_Reader_take_step (T : Txt K mg ca a__law_cell a__law_draw a__law_operand a__law_program a__law_lines a__law_number a__law_names a__law_return_fault a__law_formed a__law_known a__law_step_fault a__law_due a_Reader___init__ a_lines_of a_number_of a_number_behind a_looks_like_operand a_Reader_is_operand a_Reader_take_step a_number_in a_Reader_take_modulus a_Reader_take_inputs a_Reader_take_outputs a_Reader_take a_read_program a_law aC_Reader aX_TidyError aX_ProgramError aX_TaskError aX_PlanError aI_ProgramError) {fd_number_behind : FuncData} (G_number_behind : FnOk P w K mg base (L2.CX P w) 2 a_number_behind fd_number_behind ["letter", "word"] (spV K ca 2 F_number_behind)) (b_number_behind : Binds K fd_number_behind ["letter", "word"] []) {fd_looks_like_operand : FuncData} (G_looks_like_operand : FnOk P w K mg base (L2.CX P w) 3 a_looks_like_operand fd_looks_like_operand ["word"] (spV K ca 1 F_looks_like_operand)) (b_looks_like_operand : Binds K fd_looks_like_operand ["word"] []) {fd_Reader_is_operand : FuncData} (G_Reader_is_operand : FnOk P w K mg base (L2.CX P w) 3 a_Reader_is_operand fd_Reader_is_operand ["self", "word"] (spV K ca 2 F_Reader_is_operand)) (b_Reader_is_operand : Binds K fd_Reader_is_operand ["self", "word"] []) {fd : FuncData} (F : Fun K "take_step" "Reader.take_step" s_Reader_take_step a_Reader_take_step fd) : FnOk P w K mg base (L2.CX P w) 4 a_Reader_take_step fd ["self", "words"] (spM K ca 2 F_Reader_take_step) :=
  fn_okM (k := 3) (N := n_Reader_take_step) (body := B_Reader_take_step) F sc_Reader_take_step (fun cdv A outer s H E hr tk hp =>
    (vss_cons (vs_if (vw (vw_or (vt_cmp (op_neD hr.units) s_ne (ve_callB call_lenA c_len (by rfl) T.z_len (by decide +kernel) (va_cons (vv 1) va_nil)) ve_int (nomark _)) (vw_or (vt_cmp (op_neD hr.units) s_ne (ve_ix ix_seq s_ix (vv 1) ve_int (fun _ _ => rfl)) ve_str (nomark _)) (vw_or1 (vt_cmp (op_notInA (hu65 hr)) s_notIn (ve_ix ix_seq s_ix (vv 1) ve_int (fun _ _ => rfl)) (ve_gtup (by rfl) T.c_OPERATIONS) (by rfl)))))) (vss_one (vs_retS ve_str)) vss_nil)
    (vss_cons (vs_set (i := 2) sc_Reader_take_step.nd rfl (Or.inl rfl) (ve_call G_number_behind (hr.mono (by decide)) (by rfl) T.g_number_behind T.k_number_behind b_number_behind tk (va_cons ve_str (va_cons (ve_ix ix_seq s_ix (vv 1) ve_int (fun _ _ => rfl)) va_nil))))
    (vss_cons (vs_if (vw (vw_or (vt_cmp op_isN s_is (vv 2) ve_non (nomark _)) (vw_or (vt_not (vt_val (ve_call G_looks_like_operand (hr.mono (by decide)) (by rfl) T.g_looks_like_operand T.k_looks_like_operand b_looks_like_operand tk (va_cons (ve_ix ix_seq s_ix (vv 1) ve_int (fun _ _ => rfl)) va_nil)))) (vw_or1 (vt_not (vt_val (ve_call G_looks_like_operand (hr.mono (by decide)) (by rfl) T.g_looks_like_operand T.k_looks_like_operand b_looks_like_operand tk (va_cons (ve_ix ix_seq s_ix (vv 1) ve_int (fun _ _ => rfl)) va_nil)))))))) (vss_one (vs_retS ve_str)) vss_nil)
    (vss_cons (vs_if (vt_cmp op_ge s_ge (ve_callB call_lenA c_len (by rfl) T.z_len (by decide +kernel) (va_cons (ve_fld 0 T.ct_Reader T.nf_Reader_steps) va_nil)) (ve_gint (by rfl) T.c_STEPS.choose_spec) (nomark _)) (vss_one (vs_retS ve_str)) vss_nil)
    (vss_cons (vs_if (vt_cmp (op_neD hr.units) s_ne (vv 2) (ve_callB call_lenA c_len (by rfl) T.z_len (by decide +kernel) (va_cons (ve_fld 0 T.ct_Reader T.nf_Reader_steps) va_nil)) (nomark _)) (vss_one (vs_retS ve_str)) vss_nil)
    (vss_cons (vs_if (vw (vw_or (vt_not (vt_val (ve_methP 0 T.ct_Reader T.mt_Reader_is_operand G_Reader_is_operand (hr.mono (by decide)) b_Reader_is_operand tk (va_cons (ve_ix ix_seq s_ix (vv 1) ve_int (fun _ _ => rfl)) va_nil)))) (vw_or1 (vt_not (vt_val (ve_methP 0 T.ct_Reader T.mt_Reader_is_operand G_Reader_is_operand (hr.mono (by decide)) b_Reader_is_operand tk (va_cons (ve_ix ix_seq s_ix (vv 1) ve_int (fun _ _ => rfl)) va_nil))))))) (vss_one (vs_retS ve_str)) vss_nil)
    (vss_cons (vs_set (i := 3) sc_Reader_take_step.nd rfl (Or.inl rfl) (ve_tup (va_cons (ve_ix ix_seq s_ix (vv 1) ve_int (fun _ _ => rfl)) (va_cons (ve_ix ix_seq s_ix (vv 1) ve_int (fun _ _ => rfl)) (va_cons (ve_ix ix_seq s_ix (vv 1) ve_int (fun _ _ => rfl)) va_nil)))))
    (vss_cons (vs_if (vt_cmp (op_inA (hu65 hr)) s_in (vv 3) (ve_fld 0 T.ct_Reader T.nf_Reader_steps) (by rfl)) (vss_one (vs_retS ve_str)) vss_nil)
    (vss_cons (vs_fapp 0 T.ct_Reader T.nf_Reader_steps (vv 3))
    (vss_one (vs_retS ve_non))))))))))))
abbrev s_number_in : Stmt := topS 15
abbrev n_number_in : List Str := ["line", "word", "least", "most", "words", "number"]
theorem sc_number_in : FnScope n_number_in ["line", "word", "least", "most"] (defScope s_number_in) := ⟨rfl, rfl, rfl, by decide +kernel, rfl, by decide +kernel, by decide +kernel⟩
theorem ok_number_in (T : Txt K mg ca a__law_cell a__law_draw a__law_operand a__law_program a__law_lines a__law_number a__law_names a__law_return_fault a__law_formed a__law_known a__law_step_fault a__law_due a_Reader___init__ a_lines_of a_number_of a_number_behind a_looks_like_operand a_Reader_is_operand a_Reader_take_step a_number_in a_Reader_take_modulus a_Reader_take_inputs a_Reader_take_outputs a_Reader_take a_read_program a_law aC_Reader aX_TidyError aX_ProgramError aX_TaskError aX_PlanError aI_ProgramError) {fd_number_of : FuncData} (G_number_of : FnOk P w K mg base (L2.CX P w) 1 a_number_of fd_number_of ["word"] (spV K ca 1 F_number_of)) (b_number_of : Binds K fd_number_of ["word"] []) {fd : FuncData} (F : Fun K "number_in" "number_in" s_number_in a_number_in fd) : FnOk P w K mg base (L2.CX P w) 2 a_number_in fd ["line", "word", "least", "most"] (spV K ca 4 F_number_in) :=
  fn_ok (k := 1) (N := n_number_in) (body := B_number_in) F sc_number_in (fun cdv A outer s H E hr tk hp =>
    (vss_cons (vs_set (i := 4) sc_number_in.nd rfl (Or.inl rfl) (ve_split (vv 0) ve_str))
    (vss_cons (vs_if (vw (vw_or (vt_cmp (op_neD hr.units) s_ne (ve_callB call_lenA c_len (by rfl) T.z_len (by decide +kernel) (va_cons (vv 4) va_nil)) ve_int (nomark _)) (vw_or1 (vt_cmp (op_neD hr.units) s_ne (ve_ix ix_seq s_ix (vv 4) ve_int (fun _ _ => rfl)) (vv 1) (nomark _))))) (vss_one (vs_ret ve_non)) vss_nil)
    (vss_cons (vs_set (i := 5) sc_number_in.nd rfl (Or.inl rfl) (ve_call G_number_of (hr.mono (by decide)) (by rfl) T.g_number_of T.k_number_of b_number_of tk (va_cons (ve_ix ix_seq s_ix (vv 4) ve_int (fun _ _ => rfl)) va_nil)))
    (vss_cons (vs_if (vw (vw_or (vt_cmp op_isN s_is (vv 5) ve_non (nomark _)) (vw_or (vt_cmp op_lt s_lt (vv 5) (vv 2) (nomark _)) (vw_or1 (vt_cmp op_gt s_gt (vv 5) (vv 3) (nomark _)))))) (vss_one (vs_ret ve_non)) vss_nil)
    (vss_one (vs_retv 5)))))))
abbrev s_Reader_take_modulus : Stmt := (clsBody (topS 17)).getD 2 (.Pass ⟨0, 0, 0, 0⟩)
abbrev n_Reader_take_modulus : List Str := ["self", "line", "number"]
theorem sc_Reader_take_modulus : FnScope n_Reader_take_modulus ["self", "line"] (defScope s_Reader_take_modulus) := ⟨rfl, rfl, rfl, by decide +kernel, rfl, by decide +kernel, by decide +kernel⟩
theorem ok_Reader_take_modulus (T : Txt K mg ca a__law_cell a__law_draw a__law_operand a__law_program a__law_lines a__law_number a__law_names a__law_return_fault a__law_formed a__law_known a__law_step_fault a__law_due a_Reader___init__ a_lines_of a_number_of a_number_behind a_looks_like_operand a_Reader_is_operand a_Reader_take_step a_number_in a_Reader_take_modulus a_Reader_take_inputs a_Reader_take_outputs a_Reader_take a_read_program a_law aC_Reader aX_TidyError aX_ProgramError aX_TaskError aX_PlanError aI_ProgramError) {fd_number_in : FuncData} (G_number_in : FnOk P w K mg base (L2.CX P w) 2 a_number_in fd_number_in ["line", "word", "least", "most"] (spV K ca 4 F_number_in)) (b_number_in : Binds K fd_number_in ["line", "word", "least", "most"] []) {fd : FuncData} (F : Fun K "take_modulus" "Reader.take_modulus" s_Reader_take_modulus a_Reader_take_modulus fd) : FnOk P w K mg base (L2.CX P w) 3 a_Reader_take_modulus fd ["self", "line"] (spM K ca 2 F_Reader_take_modulus) :=
  fn_okM (k := 2) (N := n_Reader_take_modulus) (body := B_Reader_take_modulus) F sc_Reader_take_modulus (fun cdv A outer s H E hr tk hp =>
    (vss_cons (vs_set (i := 2) sc_Reader_take_modulus.nd rfl (Or.inl rfl) (ve_call G_number_in (hr.mono (by decide)) (by rfl) T.g_number_in T.k_number_in b_number_in tk (va_cons (vv 1) (va_cons ve_str (va_cons ve_int (va_cons (ve_gint (by rfl) T.c_MODULUS.choose_spec) va_nil))))))
    (vss_cons (vs_if (vt_cmp op_isN s_is (vv 2) ve_non (nomark _)) (vss_one (vs_retS ve_str)) vss_nil)
    (vss_cons (vs_fz 2 (vs_fldS false 0 T.ct_Reader T.nf_Reader_modulus (vv 2)))
    (vss_one (vs_retS ve_non))))))
abbrev s_Reader_take_inputs : Stmt := (clsBody (topS 17)).getD 3 (.Pass ⟨0, 0, 0, 0⟩)
abbrev n_Reader_take_inputs : List Str := ["self", "line", "number"]
theorem sc_Reader_take_inputs : FnScope n_Reader_take_inputs ["self", "line"] (defScope s_Reader_take_inputs) := ⟨rfl, rfl, rfl, by decide +kernel, rfl, by decide +kernel, by decide +kernel⟩
theorem ok_Reader_take_inputs (T : Txt K mg ca a__law_cell a__law_draw a__law_operand a__law_program a__law_lines a__law_number a__law_names a__law_return_fault a__law_formed a__law_known a__law_step_fault a__law_due a_Reader___init__ a_lines_of a_number_of a_number_behind a_looks_like_operand a_Reader_is_operand a_Reader_take_step a_number_in a_Reader_take_modulus a_Reader_take_inputs a_Reader_take_outputs a_Reader_take a_read_program a_law aC_Reader aX_TidyError aX_ProgramError aX_TaskError aX_PlanError aI_ProgramError) {fd_number_in : FuncData} (G_number_in : FnOk P w K mg base (L2.CX P w) 2 a_number_in fd_number_in ["line", "word", "least", "most"] (spV K ca 4 F_number_in)) (b_number_in : Binds K fd_number_in ["line", "word", "least", "most"] []) {fd : FuncData} (F : Fun K "take_inputs" "Reader.take_inputs" s_Reader_take_inputs a_Reader_take_inputs fd) : FnOk P w K mg base (L2.CX P w) 3 a_Reader_take_inputs fd ["self", "line"] (spM K ca 2 F_Reader_take_inputs) :=
  fn_okM (k := 2) (N := n_Reader_take_inputs) (body := B_Reader_take_inputs) F sc_Reader_take_inputs (fun cdv A outer s H E hr tk hp =>
    (vss_cons (vs_set (i := 2) sc_Reader_take_inputs.nd rfl (Or.inl rfl) (ve_call G_number_in (hr.mono (by decide)) (by rfl) T.g_number_in T.k_number_in b_number_in tk (va_cons (vv 1) (va_cons ve_str (va_cons ve_int (va_cons (ve_gint (by rfl) T.c_INPUTS.choose_spec) va_nil))))))
    (vss_cons (vs_if (vt_cmp op_isN s_is (vv 2) ve_non (nomark _)) (vss_one (vs_retS ve_str)) vss_nil)
    (vss_cons (vs_fz 2 (vs_fldS false 0 T.ct_Reader T.nf_Reader_inputs (vv 2)))
    (vss_one (vs_retS ve_non))))))
abbrev s_Reader_take_outputs : Stmt := (clsBody (topS 17)).getD 6 (.Pass ⟨0, 0, 0, 0⟩)
abbrev n_Reader_take_outputs : List Str := ["self", "words", "numbers", "number", "k", "word"]
theorem sc_Reader_take_outputs : FnScope n_Reader_take_outputs ["self", "words"] (defScope s_Reader_take_outputs) := ⟨rfl, rfl, rfl, by decide +kernel, rfl, by decide +kernel, by decide +kernel⟩
theorem ok_Reader_take_outputs (T : Txt K mg ca a__law_cell a__law_draw a__law_operand a__law_program a__law_lines a__law_number a__law_names a__law_return_fault a__law_formed a__law_known a__law_step_fault a__law_due a_Reader___init__ a_lines_of a_number_of a_number_behind a_looks_like_operand a_Reader_is_operand a_Reader_take_step a_number_in a_Reader_take_modulus a_Reader_take_inputs a_Reader_take_outputs a_Reader_take a_read_program a_law aC_Reader aX_TidyError aX_ProgramError aX_TaskError aX_PlanError aI_ProgramError) {fd_number_behind : FuncData} (G_number_behind : FnOk P w K mg base (L2.CX P w) 2 a_number_behind fd_number_behind ["letter", "word"] (spV K ca 2 F_number_behind)) (b_number_behind : Binds K fd_number_behind ["letter", "word"] []) {fd : FuncData} (F : Fun K "take_outputs" "Reader.take_outputs" s_Reader_take_outputs a_Reader_take_outputs fd) : FnOk P w K mg base (L2.CX P w) 3 a_Reader_take_outputs fd ["self", "words"] (spM K ca 2 F_Reader_take_outputs) :=
  fn_okM (k := 2) (N := n_Reader_take_outputs) (body := B_Reader_take_outputs) F sc_Reader_take_outputs (fun cdv A outer s H E hr tk hp =>
    (vss_cons (vs_setLc (i := 2) (own := [("word", 5)]) rfl sc_Reader_take_outputs.nd rfl rfl (sw_true rfl rfl rfl (by decide +kernel)) (vj_any (vv 1)) (blkOk_by (own := [("word", 5)]) (N := n_Reader_take_outputs) (sc := defScope s_Reader_take_outputs) (by decide +kernel)) (by decide) (fun _ _ _ _ _ => (vg_name sc_Reader_take_outputs.nd rfl (Or.inl rfl))) (fun _ _ _ _ _ => vts_nil) (fun _ _ _ _ _ => (ve_call G_number_behind (hr.mono (by decide)) (by rfl) T.g_number_behind T.k_number_behind b_number_behind takes0 (va_cons ve_str (va_cons (vv 5) va_nil)))))
    (vss_cons (vs_if (vt_cmp (op_inA (hu65 hr)) s_in ve_non (vv 2) (by rfl)) (vss_one (vs_retS ve_str)) vss_nil)
    (vss_cons (vs_if (vt_cmp (op_eqD hr.units) s_eq (ve_callB call_lenA c_len (by rfl) T.z_len (by decide +kernel) (va_cons (vv 2) va_nil)) ve_int (nomark _)) (vss_one (vs_retS ve_str)) vss_nil)
    (vss_cons (vs_fz 2 (vs_for hp rfl (vi_any (vv 2)) (vg_name sc_Reader_take_outputs.nd rfl (Or.inl rfl)) (vss_one (vs_if (vt_cmp op_ge s_ge (vv 3) (ve_callB call_lenA c_len (by rfl) T.z_len (by decide +kernel) (va_cons (ve_fld 0 T.ct_Reader T.nf_Reader_steps) va_nil)) (nomark _)) (vss_one (vs_retS ve_str)) vss_nil))))
    (vss_cons (vs_for hp rfl (vi_range2 (by rfl) T.z_range (va_cons ve_int (va_cons (ve_callB call_lenA c_len (by rfl) T.z_len (by decide +kernel) (va_cons (vv 2) va_nil)) va_nil))) (vg_name sc_Reader_take_outputs.nd rfl (Or.inl rfl)) (vss_one (vs_if (vt_cmp op_le s_le (ve_ix ix_seq s_ix (vv 2) (vv 4) (fun _ _ => rfl)) (ve_ix ix_seq s_ix (vv 2) (ve_op op_sub s_sub (vv 4) ve_int) (fun _ _ => rfl)) (nomark _)) (vss_one (vs_retS ve_str)) vss_nil)))
    (vss_cons (vs_fldS false 0 T.ct_Reader T.nf_Reader_outputs (ve_callTy call_tupN c_tuple (by rfl) T.z_tuple (by decide +kernel) (va_cons (vv 2) va_nil)))
    (vss_one (vs_retS ve_non)))))))))
abbrev s_Reader_take : Stmt := (clsBody (topS 17)).getD 1 (.Pass ⟨0, 0, 0, 0⟩)
abbrev n_Reader_take : List Str := ["self", "place", "line", "words"]
theorem sc_Reader_take : FnScope n_Reader_take ["self", "place", "line"] (defScope s_Reader_take) := ⟨rfl, rfl, rfl, by decide +kernel, rfl, by decide +kernel, by decide +kernel⟩
theorem ok_Reader_take (T : Txt K mg ca a__law_cell a__law_draw a__law_operand a__law_program a__law_lines a__law_number a__law_names a__law_return_fault a__law_formed a__law_known a__law_step_fault a__law_due a_Reader___init__ a_lines_of a_number_of a_number_behind a_looks_like_operand a_Reader_is_operand a_Reader_take_step a_number_in a_Reader_take_modulus a_Reader_take_inputs a_Reader_take_outputs a_Reader_take a_read_program a_law aC_Reader aX_TidyError aX_ProgramError aX_TaskError aX_PlanError aI_ProgramError) {fd_Reader_take_modulus : FuncData} (G_Reader_take_modulus : FnOk P w K mg base (L2.CX P w) 3 a_Reader_take_modulus fd_Reader_take_modulus ["self", "line"] (spM K ca 2 F_Reader_take_modulus)) (b_Reader_take_modulus : Binds K fd_Reader_take_modulus ["self", "line"] []) {fd_Reader_take_inputs : FuncData} (G_Reader_take_inputs : FnOk P w K mg base (L2.CX P w) 3 a_Reader_take_inputs fd_Reader_take_inputs ["self", "line"] (spM K ca 2 F_Reader_take_inputs)) (b_Reader_take_inputs : Binds K fd_Reader_take_inputs ["self", "line"] []) {fd_Reader_take_outputs : FuncData} (G_Reader_take_outputs : FnOk P w K mg base (L2.CX P w) 3 a_Reader_take_outputs fd_Reader_take_outputs ["self", "words"] (spM K ca 2 F_Reader_take_outputs)) (b_Reader_take_outputs : Binds K fd_Reader_take_outputs ["self", "words"] []) {fd_Reader_take_step : FuncData} (G_Reader_take_step : FnOk P w K mg base (L2.CX P w) 4 a_Reader_take_step fd_Reader_take_step ["self", "words"] (spM K ca 2 F_Reader_take_step)) (b_Reader_take_step : Binds K fd_Reader_take_step ["self", "words"] []) {fd : FuncData} (F : Fun K "take" "Reader.take" s_Reader_take a_Reader_take fd) : FnOk P w K mg base (L2.CX P w) 5 a_Reader_take fd ["self", "place", "line"] (spM K ca 3 F_Reader_take) :=
  fn_okM (k := 4) (N := n_Reader_take) (body := B_Reader_take) F sc_Reader_take (fun cdv A outer s H E hr tk hp =>
    (vss_cons (vs_if (vt_cmp (op_eqD hr.units) s_eq (vv 1) ve_int (nomark _)) (vss_one (vs_retM (vm_meth 0 T.ct_Reader T.mt_Reader_take_modulus G_Reader_take_modulus (hr.mono (by decide)) b_Reader_take_modulus tk (va_cons (vv 2) va_nil)))) vss_nil)
    (vss_cons (vs_if (vt_cmp (op_eqD hr.units) s_eq (vv 1) ve_int (nomark _)) (vss_one (vs_retM (vm_meth 0 T.ct_Reader T.mt_Reader_take_inputs G_Reader_take_inputs (hr.mono (by decide)) b_Reader_take_inputs tk (va_cons (vv 2) va_nil)))) vss_nil)
    (vss_cons (vs_if (vt_cmp op_notN s_isNot (ve_fld 0 T.ct_Reader T.nf_Reader_outputs) ve_non (nomark _)) (vss_one (vs_retS ve_str)) vss_nil)
    (vss_cons (vs_set (i := 3) sc_Reader_take.nd rfl (Or.inl rfl) (ve_split (vv 2) ve_str))
    (vss_cons (vs_if (vt_cmp (op_eqD hr.units) s_eq (ve_ix ix_seq s_ix (vv 3) ve_int (fun _ _ => rfl)) ve_str (nomark _)) (vss_one (vs_retM (vm_meth 0 T.ct_Reader T.mt_Reader_take_outputs G_Reader_take_outputs (hr.mono (by decide)) b_Reader_take_outputs tk (va_cons (ve_sl (vv 3) (vo_some ve_int) vo_none) va_nil)))) vss_nil)
    (vss_one (vs_fz 3 (vs_retM (vm_meth 0 T.ct_Reader T.mt_Reader_take_step G_Reader_take_step (hr.mono (by decide)) b_Reader_take_step tk (va_cons (vv 3) va_nil)))))))))))
abbrev s_read_program : Stmt := topS 18
abbrev n_read_program : List Str := ["text", "lines", "reader", "k", "what", "missing"]
theorem sc_read_program : FnScope n_read_program ["text"] (defScope s_read_program) := ⟨rfl, rfl, rfl, by decide +kernel, rfl, by decide +kernel, by decide +kernel⟩
theorem ok_read_program (T : Txt K mg ca a__law_cell a__law_draw a__law_operand a__law_program a__law_lines a__law_number a__law_names a__law_return_fault a__law_formed a__law_known a__law_step_fault a__law_due a_Reader___init__ a_lines_of a_number_of a_number_behind a_looks_like_operand a_Reader_is_operand a_Reader_take_step a_number_in a_Reader_take_modulus a_Reader_take_inputs a_Reader_take_outputs a_Reader_take a_read_program a_law aC_Reader aX_TidyError aX_ProgramError aX_TaskError aX_PlanError aI_ProgramError) {fd_lines_of : FuncData} (G_lines_of : FnOk P w K mg base (L2.CX P w) 1 a_lines_of fd_lines_of ["text"] (spV K ca 1 F_lines_of)) (b_lines_of : Binds K fd_lines_of ["text"] []) {fd_Reader___init__ : FuncData} (G_Reader___init__ : FnOk P w K mg base (L2.CX P w) 1 a_Reader___init__ fd_Reader___init__ ["self"] (spM K ca 1 F_Reader___init__)) (b_Reader___init__ : Binds K fd_Reader___init__ ["self"] []) {fd_Reader_take : FuncData} (G_Reader_take : FnOk P w K mg base (L2.CX P w) 5 a_Reader_take fd_Reader_take ["self", "place", "line"] (spM K ca 3 F_Reader_take)) (b_Reader_take : Binds K fd_Reader_take ["self", "place", "line"] []) {fdX_ProgramError : FuncData} (GX_ProgramError : FnOk P w K mg base (L2.CX P w) 1 aI_ProgramError fdX_ProgramError ["self", "line", "what"] (spI (ca 1) ["self", "line", "what"] ["self", "line", "what"] (tini_ProgramError K))) (bX_ProgramError : Binds K fdX_ProgramError ["self", "line", "what"] []) {fd : FuncData} (F : Fun K "read_program" "read_program" s_read_program a_read_program fd) : FnOk P w K mg base (L2.CX P w) 6 a_read_program fd ["text"] (spV K ca 1 F_read_program) :=
  fn_ok (k := 5) (N := n_read_program) (body := B_read_program) F sc_read_program (fun cdv A outer s H E hr tk hp =>
    (vss_cons (vs_set (i := 1) sc_read_program.nd rfl (Or.inl rfl) (ve_call G_lines_of (hr.mono (by decide)) (by rfl) T.g_lines_of T.k_lines_of b_lines_of tk (va_cons (vv 0) va_nil)))
    (vss_cons (vs_set (i := 2) sc_read_program.nd rfl (Or.inl rfl) (ve_make0 T.mk_Reader T.ct_Reader.nm G_Reader___init__ (hr.mono (by decide)) (by rfl) T.gc_Reader b_Reader___init__ tk))
    (vss_cons (vs_for hp rfl (vi_range1 (by rfl) T.z_range (va_cons (ve_callB call_lenA c_len (by rfl) T.z_len (by decide +kernel) (va_cons (vv 1) va_nil)) va_nil)) (vg_name sc_read_program.nd rfl (Or.inl rfl)) (vss_cons (vs_setM (i := 4) sc_read_program.nd rfl (Or.inl rfl) (vm_meth 2 T.ct_Reader T.mt_Reader_take G_Reader_take (hr.mono (by decide)) b_Reader_take tk (va_cons (vv 3) (va_cons (ve_ix ix_seq s_ix (vv 1) (vv 3) (fun _ _ => rfl)) va_nil))))
    (vss_one (vs_if (vt_cmp op_notN s_isNot (vv 4) ve_non (nomark _)) (vss_one (vs_fz 4 (vs_raise (c := 1) (n := 2) (flds := [("what", 1), ("line", 0)]) T.xo_ProgramError T.xi_ProgramError T.xt_ProgramError GX_ProgramError rfl (ini2 (i := 0) (j := 1) T.xo_ProgramError T.xn_ProgramError_line T.xn_ProgramError_what) (hr.mono (by decide)) bX_ProgramError tk rfl (by rfl) T.xr_ProgramError (va_cons (ve_op op_addA s_add (vv 3) ve_int) (va_cons (vv 4) va_nil))))) vss_nil))))
    (vss_cons (vs_if (vt_cmp op_isN s_is (ve_fld 2 T.ct_Reader T.nf_Reader_outputs) ve_non (nomark _)) (vss_cons (vs_set (i := 5) sc_read_program.nd rfl (Or.inl rfl) (ve_ix ix_seq s_ix (ve_lst (va_cons ve_str (va_cons ve_str (va_cons ve_str va_nil)))) (ve_callB (call_min2 rfl) c_min2 (by rfl) T.z_min (by decide +kernel) (va_cons ve_int (va_cons (ve_callB call_lenA c_len (by rfl) T.z_len (by decide +kernel) (va_cons (vv 1) va_nil)) va_nil))) (fun _ _ => rfl)))
    (vss_one (vs_raise (c := 1) (n := 2) (flds := [("what", 1), ("line", 0)]) T.xo_ProgramError T.xi_ProgramError T.xt_ProgramError GX_ProgramError rfl (ini2 (i := 0) (j := 1) T.xo_ProgramError T.xn_ProgramError_line T.xn_ProgramError_what) (hr.mono (by decide)) bX_ProgramError tk rfl (by rfl) T.xr_ProgramError (va_cons (ve_op op_addA s_add (ve_callB call_lenA c_len (by rfl) T.z_len (by decide +kernel) (va_cons (vv 1) va_nil)) ve_int) (va_cons (vv 5) va_nil))))) vss_nil)
    (vss_one (vs_ret (ve_tup (va_cons (ve_fld 2 T.ct_Reader T.nf_Reader_modulus) (va_cons (ve_fld 2 T.ct_Reader T.nf_Reader_inputs) (va_cons (ve_callTy call_tupN c_tuple (by rfl) T.z_tuple (by decide +kernel) (va_cons (ve_fld 2 T.ct_Reader T.nf_Reader_steps) va_nil)) (va_cons (ve_fld 2 T.ct_Reader T.nf_Reader_outputs) va_nil))))))))))))
abbrev s_law : Stmt := topS 32
abbrev n_law : List Str := ["_law_script", "_law_odd", "_law_w", "_law_program_here", "_law_lines_here", "_law_digits", "_law_at", "_law_text", "_law_due_here", "_law_told", "e"]
theorem sc_law : FnScope n_law ["_law_script"] (defScope s_law) := ⟨rfl, rfl, rfl, by decide +kernel, rfl, by decide +kernel, by decide +kernel⟩
theorem ok_law (T : Txt K mg ca a__law_cell a__law_draw a__law_operand a__law_program a__law_lines a__law_number a__law_names a__law_return_fault a__law_formed a__law_known a__law_step_fault a__law_due a_Reader___init__ a_lines_of a_number_of a_number_behind a_looks_like_operand a_Reader_is_operand a_Reader_take_step a_number_in a_Reader_take_modulus a_Reader_take_inputs a_Reader_take_outputs a_Reader_take a_read_program a_law aC_Reader aX_TidyError aX_ProgramError aX_TaskError aX_PlanError aI_ProgramError) {fd__law_program : FuncData} (G__law_program : FnOk P w K mg base (L2.CX P w) 3 a__law_program fd__law_program ["_law_script", "_law_at"] (spV K ca 2 F__law_program)) (b__law_program : Binds K fd__law_program ["_law_script", "_law_at"] []) {fd__law_lines : FuncData} (G__law_lines : FnOk P w K mg base (L2.CX P w) 1 a__law_lines fd__law_lines ["_law_program_here"] (spV K ca 1 F__law_lines)) (b__law_lines : Binds K fd__law_lines ["_law_program_here"] []) {fd__law_draw : FuncData} (G__law_draw : FnOk P w K mg base (L2.CX P w) 2 a__law_draw fd__law_draw ["_law_script", "_law_k", "_law_sizes"] (spV K ca 3 F__law_draw)) (b__law_draw : Binds K fd__law_draw ["_law_script", "_law_k", "_law_sizes"] []) {fd__law_due : FuncData} (G__law_due : FnOk P w K mg base (L2.CX P w) 5 a__law_due fd__law_due ["_law_lines_here"] (spV K ca 1 F__law_due)) (b__law_due : Binds K fd__law_due ["_law_lines_here"] []) {fd_read_program : FuncData} (G_read_program : FnOk P w K mg base (L2.CX P w) 6 a_read_program fd_read_program ["text"] (spV K ca 1 F_read_program)) (b_read_program : Binds K fd_read_program ["text"] []) {fd : FuncData} (F : Fun K "law" "law" s_law a_law fd) : FnOk P w K mg base (L2.CX P w) 7 a_law fd ["_law_script"] (spV K ca 1 F_law) :=
  fn_ok (k := 6) (N := n_law) (body := B_law) F sc_law (fun cdv A outer s H E hr tk hp =>
    (vss_cons (vs_set (i := 1) sc_law.nd rfl (Or.inl rfl) (ve_lst (va_cons ve_str (va_cons ve_str (va_cons ve_str (va_cons ve_str (va_cons ve_str (va_cons ve_str (va_cons ve_str (va_cons ve_str (va_cons ve_str (va_cons ve_str (va_cons ve_str (va_cons ve_str (va_cons ve_str (va_cons ve_str va_nil))))))))))))))))
    (vss_cons (vs_set (i := 1) sc_law.nd rfl (Or.inl rfl) (ve_op op_addA s_add (vv 1) (ve_lst (va_cons ve_str (va_cons ve_str (va_cons ve_str (va_cons ve_str (va_cons ve_str (va_cons ve_str (va_cons ve_str (va_cons ve_str (va_cons ve_str (va_cons ve_str va_nil)))))))))))))
    (vss_cons (vs_set (i := 1) sc_law.nd rfl (Or.inl rfl) (ve_op op_addA s_add (vv 1) (ve_lst (va_cons ve_str (va_cons ve_str (va_cons ve_str (va_cons ve_str (va_cons ve_str (va_cons ve_str (va_cons ve_str (va_cons ve_str (va_cons ve_str (va_cons ve_str va_nil)))))))))))))
    (vss_cons (vs_set (i := 1) sc_law.nd rfl (Or.inl rfl) (ve_op op_addA s_add (vv 1) (ve_lst (va_cons ve_str (va_cons ve_str (va_cons ve_str (va_cons ve_str (va_cons ve_str (va_cons ve_str (va_cons ve_str (va_cons ve_str (va_cons ve_str (va_cons ve_str va_nil)))))))))))))
    (vss_cons (vs_for hp rfl (vi_range1 (by rfl) T.z_range (va_cons (ve_callB (call_min2 rfl) c_min2 (by rfl) T.z_min (by decide +kernel) (va_cons ve_int (va_cons (ve_callB (call_max2 rfl) c_max2 (by rfl) T.z_max (by decide +kernel) (va_cons ve_int (va_cons (ve_op op_fdiv s_div (ve_callB call_lenA c_len (by rfl) T.z_len (by decide +kernel) (va_cons (vv 0) va_nil)) ve_int) va_nil))) va_nil))) va_nil)) (vg_name sc_law.nd rfl (Or.inl rfl)) (vss_cons (vs_set (i := 3) sc_law.nd rfl (Or.inl rfl) (ve_call G__law_program (hr.mono (by decide)) (by rfl) T.g__law_program T.k__law_program b__law_program tk (va_cons (vv 0) (va_cons (ve_op op_mul s_mul ve_int (vv 2)) va_nil))))
    (vss_cons (vs_fz 3 (vs_set (i := 4) sc_law.nd rfl (Or.inl rfl) (ve_call G__law_lines (hr.mono (by decide)) (by rfl) T.g__law_lines T.k__law_lines b__law_lines tk (va_cons (vv 3) va_nil))))
    (vss_cons (vs_set (i := 5) sc_law.nd rfl (Or.inl rfl) (ve_call G__law_draw (hr.mono (by decide)) (by rfl) T.g__law_draw T.k__law_draw b__law_draw tk (va_cons (vv 0) (va_cons (ve_op op_addA s_add (ve_op op_mul s_mul ve_int (vv 2)) ve_int) (va_cons (ve_lst (va_cons ve_int (va_cons ve_int (va_cons ve_int (va_cons ve_int va_nil))))) va_nil)))))
    (vss_cons (vs_set (i := 6) sc_law.nd rfl (Or.inl rfl) (ve_op op_mod s_mod (ve_ix ix_seq s_ix (vv 5) ve_int (fun _ _ => rfl)) (ve_callB call_lenA c_len (by rfl) T.z_len (by decide +kernel) (va_cons (vv 4) va_nil))))
    (vss_cons (vs_if (vt_cmp (op_eqD hr.units) s_eq (ve_ix ix_seq s_ix (vv 5) ve_int (fun _ _ => rfl)) ve_int (nomark _)) (vss_one (vs_set (i := 4) sc_law.nd rfl (Or.inl rfl) (ve_op op_addA s_add (ve_op op_addA s_add (ve_sl (vv 4) vo_none (vo_some (vv 6))) (ve_lst (va_cons (ve_ix ix_seq s_ix (vv 1) (ve_ix ix_seq s_ix (vv 5) ve_int (fun _ _ => rfl)) (fun _ _ => rfl)) va_nil))) (ve_sl (vv 4) (vo_some (ve_op op_addA s_add (vv 6) ve_int)) vo_none)))) (vss_one (vs_if (vt_cmp (op_eqD hr.units) s_eq (ve_ix ix_seq s_ix (vv 5) ve_int (fun _ _ => rfl)) ve_int (nomark _)) (vss_one (vs_set (i := 4) sc_law.nd rfl (Or.inl rfl) (ve_op op_addA s_add (ve_op op_addA s_add (ve_sl (vv 4) vo_none (vo_some (vv 6))) (ve_lst (va_cons (ve_ix ix_seq s_ix (vv 1) (ve_ix ix_seq s_ix (vv 5) ve_int (fun _ _ => rfl)) (fun _ _ => rfl)) va_nil))) (ve_sl (vv 4) (vo_some (vv 6)) vo_none)))) (vss_one (vs_if (vt_cmp (op_eqD hr.units) s_eq (ve_ix ix_seq s_ix (vv 5) ve_int (fun _ _ => rfl)) ve_int (nomark _)) (vss_one (vs_set (i := 4) sc_law.nd rfl (Or.inl rfl) (ve_op op_addA s_add (ve_sl (vv 4) vo_none (vo_some (vv 6))) (ve_sl (vv 4) (vo_some (ve_op op_addA s_add (vv 6) ve_int)) vo_none)))) (vss_one (vs_if (vt_cmp (op_eqD hr.units) s_eq (ve_ix ix_seq s_ix (vv 5) ve_int (fun _ _ => rfl)) ve_int (nomark _)) (vss_one (vs_set (i := 4) sc_law.nd rfl (Or.inl rfl) (ve_op op_addA s_add (ve_sl (vv 4) vo_none (vo_some (ve_op op_addA s_add (vv 6) ve_int))) (ve_sl (vv 4) (vo_some (vv 6)) vo_none)))) (vss_one (vs_if (vt_cmp (op_eqD hr.units) s_eq (ve_ix ix_seq s_ix (vv 5) ve_int (fun _ _ => rfl)) ve_int (nomark _)) (vss_one (vs_set (i := 4) sc_law.nd rfl (Or.inl rfl) (ve_sl (vv 4) vo_none (vo_some (vv 6))))) (vss_one (vs_set (i := 4) sc_law.nd rfl (Or.inl rfl) (ve_op op_addA s_add (vv 4) (ve_lst (va_cons (ve_ix ix_seq s_ix (vv 1) (ve_ix ix_seq s_ix (vv 5) ve_int (fun _ _ => rfl)) (fun _ _ => rfl)) va_nil))))))))))))))
    (vss_cons (vs_fz 4 (vs_set (i := 7) sc_law.nd rfl (Or.inl rfl) (ve_join ve_str (vv 4))))
    (vss_cons (vs_if (vw (vw_and (vt_cmp (op_eqD hr.units) s_eq (ve_ix ix_seq s_ix (vv 5) ve_int (fun _ _ => rfl)) ve_int (nomark _)) (vw_and1 (vt_cmp op_gt s_gt (ve_callB call_lenA c_len (by rfl) T.z_len (by decide +kernel) (va_cons (vv 4) va_nil)) ve_int (nomark _))))) (vss_one (vs_set (i := 7) sc_law.nd rfl (Or.inl rfl) (ve_op op_addA s_add (vv 7) ve_str))) vss_nil)
    (vss_cons (vs_if (vw (vw_and (vt_cmp op_gt s_gt (ve_callB call_lenA c_len (by rfl) T.z_len (by decide +kernel) (va_cons (vv 4) va_nil)) ve_int (nomark _)) (vw_and (vt_cmp (op_eqD hr.units) s_eq (ve_ix ix_seq s_ix (vv 4) (ve_un un_neg s_neg ve_int) (fun _ _ => rfl)) ve_str (nomark _)) (vw_and1 (vt_cmp (op_eqD hr.units) s_eq (ve_ix ix_seq s_ix (vv 5) ve_int (fun _ _ => rfl)) ve_int (nomark _)))))) (vss_one (vs_set (i := 4) sc_law.nd rfl (Or.inl rfl) (ve_sl (vv 4) vo_none (vo_some (ve_un un_neg s_neg ve_int))))) vss_nil)
    (vss_cons (vs_fz 4 (vs_set (i := 8) sc_law.nd rfl (Or.inl rfl) (ve_call G__law_due (hr.mono (by decide)) (by rfl) T.g__law_due T.k__law_due b__law_due tk (va_cons (vv 4) va_nil))))
    (vss_cons (vs_try (i := 10) (mt := mt_TidyError) (fb := Y0_law) (fs := Z0_law) rfl rfl sc_law.nd rfl rfl ⟨by rfl, by decide, .inl T.xg_TidyError⟩ tk T.xm_TidyError (fun W pn xe tk hp => (vss_one (vs_fz 7 (vs_set (i := 9) sc_law.nd rfl (Or.inl rfl) (ve_call G_read_program (hr.mono (by decide)) (by rfl) T.g_read_program T.k_read_program b_read_program tk (va_cons (vv 7) va_nil)))))) (fun a dd c oe pn hz hf => (vss_cons (vs_if (vw (vw_or (vt_not (vt_val (ve_isE (i := 10) (tb := tk_ProgramError) T.xk_ProgramError hz hf (by rfl) T.z_isinstance (by rfl) T.xg_ProgramError rfl (Or.inl rfl)))) (vw_or (vt_not (vt_val (ve_isV (i := 10) (tb := tk_ValueError) T.xk_ValueError hz hf (by rfl) T.z_isinstance (by rfl) T.z_ValueError (by decide +kernel) rfl (Or.inl rfl)))) (vw_or (vt_val (ve_isE (i := 10) (tb := tk_TaskError) T.xk_TaskError hz hf (by rfl) T.z_isinstance (by rfl) T.xg_TaskError rfl (Or.inl rfl))) (vw_or1 (vt_val (ve_isE (i := 10) (tb := tk_PlanError) T.xk_PlanError hz hf (by rfl) T.z_isinstance (by rfl) T.xg_PlanError rfl (Or.inl rfl)))))))) (vss_one (vs_ret ve_bl)) vss_nil)
    (vss_cons (vs_if (vw (vw_or (vt_cmp op_isN s_is (vv 8) ve_non (nomark _)) (vw_or1 (vt_cmp (op_neD hr.units) s_ne (ve_tup (va_cons (ve_xf (i := 10) (cs := cs_line) T.xx_line hz hf rfl (Or.inl rfl)) (va_cons (ve_xf (i := 10) (cs := cs_what) T.xx_what hz hf rfl (Or.inl rfl)) va_nil))) (vv 8) (nomark _))))) (vss_one (vs_ret ve_bl)) vss_nil)
    (vss_one vs_continue)))))
    (vss_one (vs_fz 9 (vs_if (vw (vw_or (vt_cmp op_notN s_isNot (vv 8) ve_non (nomark _)) (vw_or1 (vt_cmp (op_neD hr.units) s_ne (ve_call G__law_lines (hr.mono (by decide)) (by rfl) T.g__law_lines T.k__law_lines b__law_lines tk (va_cons (vv 9) va_nil)) (vv 4) (nomark _))))) (vss_one (vs_ret ve_bl)) vss_nil))))))))))))))
    (vss_one (vs_ret ve_bl))))))))
end
def caX (a_ProgramError : Addr) (T : List Addr) : CA := ⟨fun x => match x with
  | 1 => a_ProgramError
  | _ => 0, T⟩
theorem all_mk {l : PySem.W.OpenLaw} {w : World} {K : PySem.W.Frag} {h : Heap} {mg : Str → Option Value} {fa a__law_cell a__law_draw a__law_operand a__law_program a__law_lines a__law_number a__law_names a__law_return_fault a__law_formed a__law_known a__law_step_fault a__law_due a_Reader___init__ a_lines_of a_number_of a_number_behind a_looks_like_operand a_Reader_is_operand a_Reader_take_step a_number_in a_Reader_take_modulus a_Reader_take_inputs a_Reader_take_outputs a_Reader_take a_read_program a_law aC_Reader aX_TidyError aX_ProgramError aX_TaskError aX_PlanError aI_ProgramError : Addr} (X : K.In h) (G : h.Ns mainGlobals mg) (hfa : mg "law" = some (.ref fa)) {q : Program} (tabs : TabsTop q K h)
    {od__law_cell an__law_cell od__law_draw an__law_draw od__law_operand an__law_operand od__law_program an__law_program od__law_lines an__law_lines od__law_number an__law_number od__law_names an__law_names od__law_return_fault an__law_return_fault od__law_formed an__law_formed od__law_known an__law_known od__law_step_fault an__law_step_fault od__law_due an__law_due od_Reader___init__ an_Reader___init__ od_lines_of an_lines_of od_number_of an_number_of od_number_behind an_number_behind od_looks_like_operand an_looks_like_operand od_Reader_is_operand an_Reader_is_operand od_Reader_take_step an_Reader_take_step od_number_in an_number_in od_Reader_take_modulus an_Reader_take_modulus od_Reader_take_inputs an_Reader_take_inputs od_Reader_take_outputs an_Reader_take_outputs od_Reader_take an_Reader_take od_read_program an_read_program od_law an_law : Option Addr} {sl__law_cell sl__law_draw sl__law_operand sl__law_program sl__law_lines sl__law_number sl__law_names sl__law_return_fault sl__law_formed sl__law_known sl__law_step_fault sl__law_due sl_Reader___init__ sl_lines_of sl_number_of sl_number_behind sl_looks_like_operand sl_Reader_is_operand sl_Reader_take_step sl_number_in sl_Reader_take_modulus sl_Reader_take_inputs sl_Reader_take_outputs sl_Reader_take sl_read_program sl_law : Array (Option Value)} {oc__law_cell kV__law_cell dc__law_cell pm__law_cell cd__law_cell ct__law_cell oc__law_draw kV__law_draw dc__law_draw pm__law_draw cd__law_draw ct__law_draw oc__law_operand kV__law_operand dc__law_operand pm__law_operand cd__law_operand ct__law_operand oc__law_program kV__law_program dc__law_program pm__law_program cd__law_program ct__law_program oc__law_lines kV__law_lines dc__law_lines pm__law_lines cd__law_lines ct__law_lines oc__law_number kV__law_number dc__law_number pm__law_number cd__law_number ct__law_number oc__law_names kV__law_names dc__law_names pm__law_names cd__law_names ct__law_names oc__law_return_fault kV__law_return_fault dc__law_return_fault pm__law_return_fault cd__law_return_fault ct__law_return_fault oc__law_formed kV__law_formed dc__law_formed pm__law_formed cd__law_formed ct__law_formed oc__law_known kV__law_known dc__law_known pm__law_known cd__law_known ct__law_known oc__law_step_fault kV__law_step_fault dc__law_step_fault pm__law_step_fault cd__law_step_fault ct__law_step_fault oc__law_due kV__law_due dc__law_due pm__law_due cd__law_due ct__law_due oc_Reader___init__ kV_Reader___init__ dc_Reader___init__ pm_Reader___init__ cd_Reader___init__ ct_Reader___init__ oc_lines_of kV_lines_of dc_lines_of pm_lines_of cd_lines_of ct_lines_of oc_number_of kV_number_of dc_number_of pm_number_of cd_number_of ct_number_of oc_number_behind kV_number_behind dc_number_behind pm_number_behind cd_number_behind ct_number_behind oc_looks_like_operand kV_looks_like_operand dc_looks_like_operand pm_looks_like_operand cd_looks_like_operand ct_looks_like_operand oc_Reader_is_operand kV_Reader_is_operand dc_Reader_is_operand pm_Reader_is_operand cd_Reader_is_operand ct_Reader_is_operand oc_Reader_take_step kV_Reader_take_step dc_Reader_take_step pm_Reader_take_step cd_Reader_take_step ct_Reader_take_step oc_number_in kV_number_in dc_number_in pm_number_in cd_number_in ct_number_in oc_Reader_take_modulus kV_Reader_take_modulus dc_Reader_take_modulus pm_Reader_take_modulus cd_Reader_take_modulus ct_Reader_take_modulus oc_Reader_take_inputs kV_Reader_take_inputs dc_Reader_take_inputs pm_Reader_take_inputs cd_Reader_take_inputs ct_Reader_take_inputs oc_Reader_take_outputs kV_Reader_take_outputs dc_Reader_take_outputs pm_Reader_take_outputs cd_Reader_take_outputs ct_Reader_take_outputs oc_Reader_take kV_Reader_take dc_Reader_take pm_Reader_take cd_Reader_take ct_Reader_take oc_read_program kV_read_program dc_read_program pm_read_program cd_read_program ct_read_program oc_law kV_law dc_law pm_law cd_law ct_law : Value}
    (pc_Reader : PySem.W.nsIn K mainGlobals "Reader" = some (some (.ref aC_Reader))) (pg_Reader : PySem.W.plainGet K aC_Reader Str.empty = true) (hd2_Reader : PySem.W.hasDictIn K aC_Reader = true) (po_Reader : PySem.W.plainOver K aC_Reader = true) (sa2_Reader : PySem.W.findIn K (.ref aC_Reader) "__setattr__" = some (some (.builtin "object.__setattr__")))
    (p__law_cell : PySem.W.nsIn K mainGlobals "_law_cell" = some (some (.ref a__law_cell))) (l__law_cell : K.lookup a__law_cell = some ⟨oc__law_cell, od__law_cell, .func (PySem.W.fnOf "_law_cell" "_law_cell" (defArgs s__law_cell) (defBody s__law_cell) (defScope s__law_cell) .none kV__law_cell dc__law_cell pm__law_cell an__law_cell cd__law_cell ct__law_cell), sl__law_cell⟩) (c__law_cell : PySem.W.codeIn K cd__law_cell "_law_cell" = true) (k__law_cell : PySem.W.keepIn K (.ref a__law_cell) = true)
    (p__law_draw : PySem.W.nsIn K mainGlobals "_law_draw" = some (some (.ref a__law_draw))) (l__law_draw : K.lookup a__law_draw = some ⟨oc__law_draw, od__law_draw, .func (PySem.W.fnOf "_law_draw" "_law_draw" (defArgs s__law_draw) (defBody s__law_draw) (defScope s__law_draw) .none kV__law_draw dc__law_draw pm__law_draw an__law_draw cd__law_draw ct__law_draw), sl__law_draw⟩) (c__law_draw : PySem.W.codeIn K cd__law_draw "_law_draw" = true) (k__law_draw : PySem.W.keepIn K (.ref a__law_draw) = true)
    (p__law_operand : PySem.W.nsIn K mainGlobals "_law_operand" = some (some (.ref a__law_operand))) (l__law_operand : K.lookup a__law_operand = some ⟨oc__law_operand, od__law_operand, .func (PySem.W.fnOf "_law_operand" "_law_operand" (defArgs s__law_operand) (defBody s__law_operand) (defScope s__law_operand) .none kV__law_operand dc__law_operand pm__law_operand an__law_operand cd__law_operand ct__law_operand), sl__law_operand⟩) (c__law_operand : PySem.W.codeIn K cd__law_operand "_law_operand" = true) (k__law_operand : PySem.W.keepIn K (.ref a__law_operand) = true)
    (p__law_program : PySem.W.nsIn K mainGlobals "_law_program" = some (some (.ref a__law_program))) (l__law_program : K.lookup a__law_program = some ⟨oc__law_program, od__law_program, .func (PySem.W.fnOf "_law_program" "_law_program" (defArgs s__law_program) (defBody s__law_program) (defScope s__law_program) .none kV__law_program dc__law_program pm__law_program an__law_program cd__law_program ct__law_program), sl__law_program⟩) (c__law_program : PySem.W.codeIn K cd__law_program "_law_program" = true) (k__law_program : PySem.W.keepIn K (.ref a__law_program) = true)
    (p__law_lines : PySem.W.nsIn K mainGlobals "_law_lines" = some (some (.ref a__law_lines))) (l__law_lines : K.lookup a__law_lines = some ⟨oc__law_lines, od__law_lines, .func (PySem.W.fnOf "_law_lines" "_law_lines" (defArgs s__law_lines) (defBody s__law_lines) (defScope s__law_lines) .none kV__law_lines dc__law_lines pm__law_lines an__law_lines cd__law_lines ct__law_lines), sl__law_lines⟩) (c__law_lines : PySem.W.codeIn K cd__law_lines "_law_lines" = true) (k__law_lines : PySem.W.keepIn K (.ref a__law_lines) = true)
    (p__law_number : PySem.W.nsIn K mainGlobals "_law_number" = some (some (.ref a__law_number))) (l__law_number : K.lookup a__law_number = some ⟨oc__law_number, od__law_number, .func (PySem.W.fnOf "_law_number" "_law_number" (defArgs s__law_number) (defBody s__law_number) (defScope s__law_number) .none kV__law_number dc__law_number pm__law_number an__law_number cd__law_number ct__law_number), sl__law_number⟩) (c__law_number : PySem.W.codeIn K cd__law_number "_law_number" = true) (k__law_number : PySem.W.keepIn K (.ref a__law_number) = true)
    (p__law_names : PySem.W.nsIn K mainGlobals "_law_names" = some (some (.ref a__law_names))) (l__law_names : K.lookup a__law_names = some ⟨oc__law_names, od__law_names, .func (PySem.W.fnOf "_law_names" "_law_names" (defArgs s__law_names) (defBody s__law_names) (defScope s__law_names) .none kV__law_names dc__law_names pm__law_names an__law_names cd__law_names ct__law_names), sl__law_names⟩) (c__law_names : PySem.W.codeIn K cd__law_names "_law_names" = true) (k__law_names : PySem.W.keepIn K (.ref a__law_names) = true)
    (p__law_return_fault : PySem.W.nsIn K mainGlobals "_law_return_fault" = some (some (.ref a__law_return_fault))) (l__law_return_fault : K.lookup a__law_return_fault = some ⟨oc__law_return_fault, od__law_return_fault, .func (PySem.W.fnOf "_law_return_fault" "_law_return_fault" (defArgs s__law_return_fault) (defBody s__law_return_fault) (defScope s__law_return_fault) .none kV__law_return_fault dc__law_return_fault pm__law_return_fault an__law_return_fault cd__law_return_fault ct__law_return_fault), sl__law_return_fault⟩) (c__law_return_fault : PySem.W.codeIn K cd__law_return_fault "_law_return_fault" = true) (k__law_return_fault : PySem.W.keepIn K (.ref a__law_return_fault) = true)
    (p__law_formed : PySem.W.nsIn K mainGlobals "_law_formed" = some (some (.ref a__law_formed))) (l__law_formed : K.lookup a__law_formed = some ⟨oc__law_formed, od__law_formed, .func (PySem.W.fnOf "_law_formed" "_law_formed" (defArgs s__law_formed) (defBody s__law_formed) (defScope s__law_formed) .none kV__law_formed dc__law_formed pm__law_formed an__law_formed cd__law_formed ct__law_formed), sl__law_formed⟩) (c__law_formed : PySem.W.codeIn K cd__law_formed "_law_formed" = true) (k__law_formed : PySem.W.keepIn K (.ref a__law_formed) = true)
    (p__law_known : PySem.W.nsIn K mainGlobals "_law_known" = some (some (.ref a__law_known))) (l__law_known : K.lookup a__law_known = some ⟨oc__law_known, od__law_known, .func (PySem.W.fnOf "_law_known" "_law_known" (defArgs s__law_known) (defBody s__law_known) (defScope s__law_known) .none kV__law_known dc__law_known pm__law_known an__law_known cd__law_known ct__law_known), sl__law_known⟩) (c__law_known : PySem.W.codeIn K cd__law_known "_law_known" = true) (k__law_known : PySem.W.keepIn K (.ref a__law_known) = true)
    (p__law_step_fault : PySem.W.nsIn K mainGlobals "_law_step_fault" = some (some (.ref a__law_step_fault))) (l__law_step_fault : K.lookup a__law_step_fault = some ⟨oc__law_step_fault, od__law_step_fault, .func (PySem.W.fnOf "_law_step_fault" "_law_step_fault" (defArgs s__law_step_fault) (defBody s__law_step_fault) (defScope s__law_step_fault) .none kV__law_step_fault dc__law_step_fault pm__law_step_fault an__law_step_fault cd__law_step_fault ct__law_step_fault), sl__law_step_fault⟩) (c__law_step_fault : PySem.W.codeIn K cd__law_step_fault "_law_step_fault" = true) (k__law_step_fault : PySem.W.keepIn K (.ref a__law_step_fault) = true)
    (p__law_due : PySem.W.nsIn K mainGlobals "_law_due" = some (some (.ref a__law_due))) (l__law_due : K.lookup a__law_due = some ⟨oc__law_due, od__law_due, .func (PySem.W.fnOf "_law_due" "_law_due" (defArgs s__law_due) (defBody s__law_due) (defScope s__law_due) .none kV__law_due dc__law_due pm__law_due an__law_due cd__law_due ct__law_due), sl__law_due⟩) (c__law_due : PySem.W.codeIn K cd__law_due "_law_due" = true) (k__law_due : PySem.W.keepIn K (.ref a__law_due) = true)
    (at_Reader___init__ : PySem.W.findIn K (.ref aC_Reader) "__init__" = some (some (.ref a_Reader___init__))) (is_Reader___init__ : PySem.W.isFn K (.ref a_Reader___init__) = true)
    (l_Reader___init__ : K.lookup a_Reader___init__ = some ⟨oc_Reader___init__, od_Reader___init__, .func (PySem.W.fnOf "__init__" "Reader.__init__" (defArgs s_Reader___init__) (defBody s_Reader___init__) (defScope s_Reader___init__) .none kV_Reader___init__ dc_Reader___init__ pm_Reader___init__ an_Reader___init__ cd_Reader___init__ ct_Reader___init__), sl_Reader___init__⟩) (c_Reader___init__ : PySem.W.codeIn K cd_Reader___init__ "Reader.__init__" = true) (k_Reader___init__ : PySem.W.keepIn K (.ref a_Reader___init__) = true)
    (p_lines_of : PySem.W.nsIn K mainGlobals "lines_of" = some (some (.ref a_lines_of))) (l_lines_of : K.lookup a_lines_of = some ⟨oc_lines_of, od_lines_of, .func (PySem.W.fnOf "lines_of" "lines_of" (defArgs s_lines_of) (defBody s_lines_of) (defScope s_lines_of) .none kV_lines_of dc_lines_of pm_lines_of an_lines_of cd_lines_of ct_lines_of), sl_lines_of⟩) (c_lines_of : PySem.W.codeIn K cd_lines_of "lines_of" = true) (k_lines_of : PySem.W.keepIn K (.ref a_lines_of) = true)
    (p_number_of : PySem.W.nsIn K mainGlobals "number_of" = some (some (.ref a_number_of))) (l_number_of : K.lookup a_number_of = some ⟨oc_number_of, od_number_of, .func (PySem.W.fnOf "number_of" "number_of" (defArgs s_number_of) (defBody s_number_of) (defScope s_number_of) .none kV_number_of dc_number_of pm_number_of an_number_of cd_number_of ct_number_of), sl_number_of⟩) (c_number_of : PySem.W.codeIn K cd_number_of "number_of" = true) (k_number_of : PySem.W.keepIn K (.ref a_number_of) = true)
    (p_number_behind : PySem.W.nsIn K mainGlobals "number_behind" = some (some (.ref a_number_behind))) (l_number_behind : K.lookup a_number_behind = some ⟨oc_number_behind, od_number_behind, .func (PySem.W.fnOf "number_behind" "number_behind" (defArgs s_number_behind) (defBody s_number_behind) (defScope s_number_behind) .none kV_number_behind dc_number_behind pm_number_behind an_number_behind cd_number_behind ct_number_behind), sl_number_behind⟩) (c_number_behind : PySem.W.codeIn K cd_number_behind "number_behind" = true) (k_number_behind : PySem.W.keepIn K (.ref a_number_behind) = true)
    (p_looks_like_operand : PySem.W.nsIn K mainGlobals "looks_like_operand" = some (some (.ref a_looks_like_operand))) (l_looks_like_operand : K.lookup a_looks_like_operand = some ⟨oc_looks_like_operand, od_looks_like_operand, .func (PySem.W.fnOf "looks_like_operand" "looks_like_operand" (defArgs s_looks_like_operand) (defBody s_looks_like_operand) (defScope s_looks_like_operand) .none kV_looks_like_operand dc_looks_like_operand pm_looks_like_operand an_looks_like_operand cd_looks_like_operand ct_looks_like_operand), sl_looks_like_operand⟩) (c_looks_like_operand : PySem.W.codeIn K cd_looks_like_operand "looks_like_operand" = true) (k_looks_like_operand : PySem.W.keepIn K (.ref a_looks_like_operand) = true)
    (at_Reader_is_operand : PySem.W.findIn K (.ref aC_Reader) "is_operand" = some (some (.ref a_Reader_is_operand))) (is_Reader_is_operand : PySem.W.isFn K (.ref a_Reader_is_operand) = true)
    (l_Reader_is_operand : K.lookup a_Reader_is_operand = some ⟨oc_Reader_is_operand, od_Reader_is_operand, .func (PySem.W.fnOf "is_operand" "Reader.is_operand" (defArgs s_Reader_is_operand) (defBody s_Reader_is_operand) (defScope s_Reader_is_operand) .none kV_Reader_is_operand dc_Reader_is_operand pm_Reader_is_operand an_Reader_is_operand cd_Reader_is_operand ct_Reader_is_operand), sl_Reader_is_operand⟩) (c_Reader_is_operand : PySem.W.codeIn K cd_Reader_is_operand "Reader.is_operand" = true) (k_Reader_is_operand : PySem.W.keepIn K (.ref a_Reader_is_operand) = true)
    (at_Reader_take_step : PySem.W.findIn K (.ref aC_Reader) "take_step" = some (some (.ref a_Reader_take_step))) (is_Reader_take_step : PySem.W.isFn K (.ref a_Reader_take_step) = true)
    (l_Reader_take_step : K.lookup a_Reader_take_step = some ⟨oc_Reader_take_step, od_Reader_take_step, .func (PySem.W.fnOf "take_step" "Reader.take_step" (defArgs s_Reader_take_step) (defBody s_Reader_take_step) (defScope s_Reader_take_step) .none kV_Reader_take_step dc_Reader_take_step pm_Reader_take_step an_Reader_take_step cd_Reader_take_step ct_Reader_take_step), sl_Reader_take_step⟩) (c_Reader_take_step : PySem.W.codeIn K cd_Reader_take_step "Reader.take_step" = true) (k_Reader_take_step : PySem.W.keepIn K (.ref a_Reader_take_step) = true)
    (p_number_in : PySem.W.nsIn K mainGlobals "number_in" = some (some (.ref a_number_in))) (l_number_in : K.lookup a_number_in = some ⟨oc_number_in, od_number_in, .func (PySem.W.fnOf "number_in" "number_in" (defArgs s_number_in) (defBody s_number_in) (defScope s_number_in) .none kV_number_in dc_number_in pm_number_in an_number_in cd_number_in ct_number_in), sl_number_in⟩) (c_number_in : PySem.W.codeIn K cd_number_in "number_in" = true) (k_number_in : PySem.W.keepIn K (.ref a_number_in) = true)
    (at_Reader_take_modulus : PySem.W.findIn K (.ref aC_Reader) "take_modulus" = some (some (.ref a_Reader_take_modulus))) (is_Reader_take_modulus : PySem.W.isFn K (.ref a_Reader_take_modulus) = true)
    (l_Reader_take_modulus : K.lookup a_Reader_take_modulus = some ⟨oc_Reader_take_modulus, od_Reader_take_modulus, .func (PySem.W.fnOf "take_modulus" "Reader.take_modulus" (defArgs s_Reader_take_modulus) (defBody s_Reader_take_modulus) (defScope s_Reader_take_modulus) .none kV_Reader_take_modulus dc_Reader_take_modulus pm_Reader_take_modulus an_Reader_take_modulus cd_Reader_take_modulus ct_Reader_take_modulus), sl_Reader_take_modulus⟩) (c_Reader_take_modulus : PySem.W.codeIn K cd_Reader_take_modulus "Reader.take_modulus" = true) (k_Reader_take_modulus : PySem.W.keepIn K (.ref a_Reader_take_modulus) = true)
    (at_Reader_take_inputs : PySem.W.findIn K (.ref aC_Reader) "take_inputs" = some (some (.ref a_Reader_take_inputs))) (is_Reader_take_inputs : PySem.W.isFn K (.ref a_Reader_take_inputs) = true)
    (l_Reader_take_inputs : K.lookup a_Reader_take_inputs = some ⟨oc_Reader_take_inputs, od_Reader_take_inputs, .func (PySem.W.fnOf "take_inputs" "Reader.take_inputs" (defArgs s_Reader_take_inputs) (defBody s_Reader_take_inputs) (defScope s_Reader_take_inputs) .none kV_Reader_take_inputs dc_Reader_take_inputs pm_Reader_take_inputs an_Reader_take_inputs cd_Reader_take_inputs ct_Reader_take_inputs), sl_Reader_take_inputs⟩) (c_Reader_take_inputs : PySem.W.codeIn K cd_Reader_take_inputs "Reader.take_inputs" = true) (k_Reader_take_inputs : PySem.W.keepIn K (.ref a_Reader_take_inputs) = true)
    (at_Reader_take_outputs : PySem.W.findIn K (.ref aC_Reader) "take_outputs" = some (some (.ref a_Reader_take_outputs))) (is_Reader_take_outputs : PySem.W.isFn K (.ref a_Reader_take_outputs) = true)
    (l_Reader_take_outputs : K.lookup a_Reader_take_outputs = some ⟨oc_Reader_take_outputs, od_Reader_take_outputs, .func (PySem.W.fnOf "take_outputs" "Reader.take_outputs" (defArgs s_Reader_take_outputs) (defBody s_Reader_take_outputs) (defScope s_Reader_take_outputs) .none kV_Reader_take_outputs dc_Reader_take_outputs pm_Reader_take_outputs an_Reader_take_outputs cd_Reader_take_outputs ct_Reader_take_outputs), sl_Reader_take_outputs⟩) (c_Reader_take_outputs : PySem.W.codeIn K cd_Reader_take_outputs "Reader.take_outputs" = true) (k_Reader_take_outputs : PySem.W.keepIn K (.ref a_Reader_take_outputs) = true)
    (at_Reader_take : PySem.W.findIn K (.ref aC_Reader) "take" = some (some (.ref a_Reader_take))) (is_Reader_take : PySem.W.isFn K (.ref a_Reader_take) = true)
    (l_Reader_take : K.lookup a_Reader_take = some ⟨oc_Reader_take, od_Reader_take, .func (PySem.W.fnOf "take" "Reader.take" (defArgs s_Reader_take) (defBody s_Reader_take) (defScope s_Reader_take) .none kV_Reader_take dc_Reader_take pm_Reader_take an_Reader_take cd_Reader_take ct_Reader_take), sl_Reader_take⟩) (c_Reader_take : PySem.W.codeIn K cd_Reader_take "Reader.take" = true) (k_Reader_take : PySem.W.keepIn K (.ref a_Reader_take) = true)
    (p_read_program : PySem.W.nsIn K mainGlobals "read_program" = some (some (.ref a_read_program))) (l_read_program : K.lookup a_read_program = some ⟨oc_read_program, od_read_program, .func (PySem.W.fnOf "read_program" "read_program" (defArgs s_read_program) (defBody s_read_program) (defScope s_read_program) .none kV_read_program dc_read_program pm_read_program an_read_program cd_read_program ct_read_program), sl_read_program⟩) (c_read_program : PySem.W.codeIn K cd_read_program "read_program" = true) (k_read_program : PySem.W.keepIn K (.ref a_read_program) = true)
    (p_law : PySem.W.nsIn K mainGlobals "law" = some (some (.ref a_law))) (l_law : K.lookup a_law = some ⟨oc_law, od_law, .func (PySem.W.fnOf "law" "law" (defArgs s_law) (defBody s_law) (defScope s_law) .none kV_law dc_law pm_law an_law cd_law ct_law), sl_law⟩) (c_law : PySem.W.codeIn K cd_law "law" = true) (k_law : PySem.W.keepIn K (.ref a_law) = true)
    (nf_Reader_inputs : PySem.W.findIn K (.ref aC_Reader) "inputs" = some none)
    (nf_Reader_modulus : PySem.W.findIn K (.ref aC_Reader) "modulus" = some none)
    (nf_Reader_outputs : PySem.W.findIn K (.ref aC_Reader) "outputs" = some none)
    (nf_Reader_steps : PySem.W.findIn K (.ref aC_Reader) "steps" = some none)
    (mki_Reader : PySem.W.makesIn K aC_Reader = true) (kc_Reader : PySem.W.keepIn K (.ref aC_Reader) = true)
    {ct_number_of Pt_number_of : Addr} {er_number_of : DefRec} (tb_number_of : PySem.W.tabIn K "number_of" = some (ct_number_of, Pt_number_of)) (re_number_of : (recsOf q).find? (fun e => e.name == ("number_of" : Str)) = some er_number_of) (nt_number_of : K.lookup Pt_number_of = none) (hc_number_of : cd_number_of = .ref ct_number_of)
    (z_ValueError : PySem.W.nsIn K mainGlobals "ValueError" = some none)
    (z_all : PySem.W.nsIn K mainGlobals "all" = some none)
    (z_int : PySem.W.nsIn K mainGlobals "int" = some none)
    (z_isinstance : PySem.W.nsIn K mainGlobals "isinstance" = some none)
    (z_len : PySem.W.nsIn K mainGlobals "len" = some none)
    (z_max : PySem.W.nsIn K mainGlobals "max" = some none)
    (z_min : PySem.W.nsIn K mainGlobals "min" = some none)
    (z_range : PySem.W.nsIn K mainGlobals "range" = some none)
    (z_str : PySem.W.nsIn K mainGlobals "str" = some none)
    (z_tuple : PySem.W.nsIn K mainGlobals "tuple" = some none)
    {t_DIGITS : Tok} (q_DIGITS : PySem.W.nsIn K mainGlobals "DIGITS" = some (some (.str "0123456789" t_DIGITS)))
    {t_INPUTS : Tok} (q_INPUTS : PySem.W.nsIn K mainGlobals "INPUTS" = some (some (.int 6 t_INPUTS)))
    {t_MODULUS : Tok} (q_MODULUS : PySem.W.nsIn K mainGlobals "MODULUS" = some (some (.int 1000 t_MODULUS)))
    {Tg_OPERATIONS : Addr} {ng_OPERATIONS : Nat} {slg_OPERATIONS : Array (Option Value)} {tg0_OPERATIONS tg1_OPERATIONS tg2_OPERATIONS : Tok} (q_OPERATIONS : PySem.W.nsIn K mainGlobals "OPERATIONS" = some (some (.ref Tg_OPERATIONS))) (lq_OPERATIONS : K.lookup Tg_OPERATIONS = some ⟨.type "tuple", none, .seq #[.str "+" tg0_OPERATIONS, .str "-" tg1_OPERATIONS, .str "*" tg2_OPERATIONS] ng_OPERATIONS, slg_OPERATIONS⟩)
    {t_STEPS : Tok} (q_STEPS : PySem.W.nsIn K mainGlobals "STEPS" = some (some (.int 8 t_STEPS)))
    (px_TidyError : PySem.W.nsIn K mainGlobals "TidyError" = some (some (.ref aX_TidyError)))
    (eb_TidyError : PySem.W.subIn K (.ref aX_TidyError) (.type "BaseException") = some true)
    (hd_TidyError : PySem.W.hasDictIn K aX_TidyError = true)
    (ty_TidyError : PySem.W.typeIn K (.ref aX_TidyError) = some (.type "type"))
    (px_ProgramError : PySem.W.nsIn K mainGlobals "ProgramError" = some (some (.ref aX_ProgramError)))
    (eb_ProgramError : PySem.W.subIn K (.ref aX_ProgramError) (.type "BaseException") = some true)
    (hd_ProgramError : PySem.W.hasDictIn K aX_ProgramError = true)
    (ty_ProgramError : PySem.W.typeIn K (.ref aX_ProgramError) = some (.type "type"))
    (px_TaskError : PySem.W.nsIn K mainGlobals "TaskError" = some (some (.ref aX_TaskError)))
    (eb_TaskError : PySem.W.subIn K (.ref aX_TaskError) (.type "BaseException") = some true)
    (hd_TaskError : PySem.W.hasDictIn K aX_TaskError = true)
    (ty_TaskError : PySem.W.typeIn K (.ref aX_TaskError) = some (.type "type"))
    (px_PlanError : PySem.W.nsIn K mainGlobals "PlanError" = some (some (.ref aX_PlanError)))
    (eb_PlanError : PySem.W.subIn K (.ref aX_PlanError) (.type "BaseException") = some true)
    (hd_PlanError : PySem.W.hasDictIn K aX_PlanError = true)
    (ty_PlanError : PySem.W.typeIn K (.ref aX_PlanError) = some (.type "type"))
    (ss_ProgramError : PySem.W.subIn K (.ref aX_ProgramError) (.ref aX_ProgramError) = some true)
    (ss_TaskError : PySem.W.subIn K (.ref aX_TaskError) (.ref aX_TaskError) = some true)
    (ss_PlanError : PySem.W.subIn K (.ref aX_PlanError) (.ref aX_PlanError) = some true)
    (sb_ProgramError_TidyError : PySem.W.subIn K (.ref aX_ProgramError) (.ref aX_TidyError) = some true)
    (sb_ProgramError_ProgramError : PySem.W.subIn K (.ref aX_ProgramError) (.ref aX_ProgramError) = some true)
    (sb_ProgramError_TaskError : PySem.W.subIn K (.ref aX_ProgramError) (.ref aX_TaskError) = some false)
    (sb_ProgramError_PlanError : PySem.W.subIn K (.ref aX_ProgramError) (.ref aX_PlanError) = some false)
    {nmX_ProgramError : Str} {qX_ProgramError : Str} {NX_ProgramError : Addr} {bsX_ProgramError : List Value} {bmX_ProgramError : List Value} {snX_ProgramError : List Str} {subX_ProgramError : List Value} {abX_ProgramError : Bool} {colX_ProgramError : Option Bool} {ddX_ProgramError : Option Addr} {k0X_ProgramError : Option Value} {k1X_ProgramError : Option Value} {k2X_ProgramError : Option Value} {k3X_ProgramError : Option Value} {k5X_ProgramError : Option Value} {kVX_ProgramError : Value} {dcX_ProgramError : Value} {pmX_ProgramError : Value} {anX_ProgramError : Option Addr} {ctX_ProgramError : Value} {ocX_ProgramError : Value} {odX_ProgramError : Option Addr} {slX_ProgramError : Array (Option Value)} {cdaX_ProgramError : Addr} {ccX_ProgramError : Addr} {cclX_ProgramError : Value} {cddX_ProgramError : Option Addr} {vsX_ProgramError : Array Value} {ccsX_ProgramError : Array (Option Value)} {fileX_ProgramError : Str} {tfX_ProgramError : Tok} {clX_ProgramError : Value} {cldX_ProgramError : Option Addr} {cslX_ProgramError : Array (Option Value)} {cdX_ProgramError : ClassData} {cdTX_ProgramError : ClassData} {aTX_ProgramError : Addr}
    (lx_ProgramError : K.lookup aX_ProgramError = some (excClassObj nmX_ProgramError qX_ProgramError aX_ProgramError NX_ProgramError bsX_ProgramError bmX_ProgramError true snX_ProgramError subX_ProgramError abX_ProgramError colX_ProgramError ddX_ProgramError k0X_ProgramError k1X_ProgramError k2X_ProgramError k3X_ProgramError k5X_ProgramError "ValueError.__new__"))
    (rv_ProgramError : PySem.HandSPX.refsVE bmX_ProgramError = true)
    (sa_ProgramError : PySem.W.findIn K (.ref aX_ProgramError) "__setattr__" = some (some (.builtin "object.__setattr__")))
    (kx_ProgramError : PySem.W.keepIn K (.ref aX_ProgramError) = true)
    (ix_ProgramError : PySem.W.findIn K (.ref aX_ProgramError) "__init__" = some (some (.ref aI_ProgramError)))
    (yi_ProgramError : PySem.W.typeIn K (.ref aI_ProgramError) = some (.type "function"))
    (li_ProgramError : K.lookup aI_ProgramError = some ⟨ocX_ProgramError, odX_ProgramError, .func (PySem.W.ksFn "__init__" "ProgramError.__init__" (defArgs sI_ProgramError) (defBody sI_ProgramError) (defScope sI_ProgramError) Value.none kVX_ProgramError dcX_ProgramError pmX_ProgramError anX_ProgramError (.ref cdaX_ProgramError) ctX_ProgramError ccX_ProgramError), slX_ProgramError⟩)
    (ci_ProgramError : PySem.W.codeIn K (.ref cdaX_ProgramError) "ProgramError.__init__" = true)
    (ld_ProgramError : K.lookup cdaX_ProgramError = some ⟨cclX_ProgramError, cddX_ProgramError, .fields vsX_ProgramError, ccsX_ProgramError⟩)
    (v_ProgramError : vsX_ProgramError[2]? = some (.str fileX_ProgramError tfX_ProgramError))
    (fi_ProgramError : ((l.prog.main.file : Str) == fileX_ProgramError) = true)
    (lc_ProgramError : K.lookup ccX_ProgramError = some ⟨clX_ProgramError, cldX_ProgramError, .cell (some (.ref aX_ProgramError)), cslX_ProgramError⟩)
    (cl_ProgramError : PySem.W.clsIn K aX_ProgramError = some cdX_ProgramError)
    (pT_ProgramError : PySem.W.nsIn K mainGlobals "TidyError" = some (some (.ref aTX_ProgramError)))
    (cT_ProgramError : PySem.W.clsIn K aTX_ProgramError = some cdTX_ProgramError)
    (mr_ProgramError : cdX_ProgramError.mro = .ref aX_ProgramError :: cdTX_ProgramError.mro)
    (fT_ProgramError : PySem.W.findIn K (.ref aTX_ProgramError) "__init__" = some (some (.builtin "ValueError.__init__")))
    (sv_ProgramError : PySem.W.subIn K (.ref aX_ProgramError) (.type "ValueError") = some true)
    (ga_ProgramError : PySem.W.findIn K (.ref aX_ProgramError) "__getattribute__" = some (some (.builtin "BaseException.__getattribute__")))
    (gg_ProgramError : PySem.W.findIn K (.ref aX_ProgramError) "__getattr__" = some none)
    (no_ProgramError_line : PySem.W.findIn K (.ref aX_ProgramError) "line" = some none)
    (no_ProgramError_what : PySem.W.findIn K (.ref aX_ProgramError) "what" = some none)
    (ac_ProgramError : PySem.W.findIn K (.ref aX_ProgramError) "__class__" = some (some (.builtin "object.__class__")))
    (mo_ProgramError : PySem.W.mroIn K aX_ProgramError (.type "object") = some true)
    (sn0 : PySem.W.specialIn K (.builtin "object.__class__") "__get__" = some (some (.builtin "getset_descriptor.__get__")))
    (tk0 : PySem.W.takesIn K (.builtin "object.__class__") = some true)
    (opq : PySem.W.nsIn K PySem.cStatics "thirdparty.any" = some none)
    (zsup : PySem.W.nsIn K mainGlobals "super" = some none)
    (top : (l.prog.main.scope.names.lookup ("super" : Str)).isSome = false) :
    LamX.LawAtS l w K (L2.CX l.prog w) 7 63 "_law_script" mg fa h := by
  have e := hfa.symm.trans (PySem.W.mg_of X G p_law)
  cases e
  have T : Txt K mg (caX aX_ProgramError [Pt_number_of]) a__law_cell a__law_draw a__law_operand a__law_program a__law_lines a__law_number a__law_names a__law_return_fault a__law_formed a__law_known a__law_step_fault a__law_due a_Reader___init__ a_lines_of a_number_of a_number_behind a_looks_like_operand a_Reader_is_operand a_Reader_take_step a_number_in a_Reader_take_modulus a_Reader_take_inputs a_Reader_take_outputs a_Reader_take a_read_program fa aC_Reader aX_TidyError aX_ProgramError aX_TaskError aX_PlanError aI_ProgramError := ⟨PySem.W.mg_of X G px_TidyError, PySem.W.mg_of X G px_ProgramError, PySem.W.mg_of X G px_TaskError, PySem.W.mg_of X G px_PlanError, (fun c b h => by unfold mt_TidyError at h; split at h <;> cases h <;> first | exact exm_mk eb_TidyError hd_TidyError ty_TidyError sb_ProgramError_TidyError), (fun c b h => by unfold tk_ProgramError at h; split at h <;> cases h <;> first | exact ⟨⟨ga_ProgramError, gg_ProgramError, eb_ProgramError, hd_ProgramError, ac_ProgramError, sn0, tk0, mo_ProgramError⟩, kit_mk hd_ProgramError ty_ProgramError ss_ProgramError sb_ProgramError_ProgramError⟩), (fun c b h => by unfold tk_ValueError at h; split at h <;> cases h <;> first | exact ⟨⟨ga_ProgramError, gg_ProgramError, eb_ProgramError, hd_ProgramError, ac_ProgramError, sn0, tk0, mo_ProgramError⟩, kit_mkV sv_ProgramError⟩), (fun c b h => by unfold tk_TaskError at h; split at h <;> cases h <;> first | exact ⟨⟨ga_ProgramError, gg_ProgramError, eb_ProgramError, hd_ProgramError, ac_ProgramError, sn0, tk0, mo_ProgramError⟩, kit_mk hd_TaskError ty_TaskError ss_TaskError sb_ProgramError_TaskError⟩), (fun c b h => by unfold tk_PlanError at h; split at h <;> cases h <;> first | exact ⟨⟨ga_ProgramError, gg_ProgramError, eb_ProgramError, hd_ProgramError, ac_ProgramError, sn0, tk0, mo_ProgramError⟩, kit_mk hd_PlanError ty_PlanError ss_PlanError sb_ProgramError_PlanError⟩), (fun c h => by unfold cs_what at h; split at h <;> first | exact absurd h (by decide) | exact ⟨⟨ga_ProgramError, gg_ProgramError, eb_ProgramError, hd_ProgramError⟩, no_ProgramError_what⟩), (fun c h => by unfold cs_line at h; split at h <;> first | exact absurd h (by decide) | exact ⟨⟨ga_ProgramError, gg_ProgramError, eb_ProgramError, hd_ProgramError⟩, no_ProgramError_line⟩), PySem.W.mg_of X G px_ProgramError, oex_mk lx_ProgramError rv_ProgramError sa_ProgramError eb_ProgramError ty_ProgramError kx_ProgramError, ix_ProgramError, yi_ProgramError, no_ProgramError_line, no_ProgramError_what, PySem.W.mg_of X G pc_Reader, ⟨pc_Reader, pg_Reader, hd2_Reader, po_Reader, sa2_Reader⟩, nf_Reader_inputs, nf_Reader_modulus, nf_Reader_outputs, nf_Reader_steps, ⟨at_Reader_is_operand, is_Reader_is_operand, k_Reader_is_operand⟩, ⟨at_Reader_take, is_Reader_take, k_Reader_take⟩, ⟨at_Reader_take_inputs, is_Reader_take_inputs, k_Reader_take_inputs⟩, ⟨at_Reader_take_modulus, is_Reader_take_modulus, k_Reader_take_modulus⟩, ⟨at_Reader_take_outputs, is_Reader_take_outputs, k_Reader_take_outputs⟩, ⟨at_Reader_take_step, is_Reader_take_step, k_Reader_take_step⟩, ⟨mki_Reader, at_Reader___init__, is_Reader___init__, kc_Reader⟩, PySem.W.mg_of X G p__law_cell, k__law_cell, PySem.W.mg_of X G p__law_draw, k__law_draw, PySem.W.mg_of X G p__law_operand, k__law_operand, PySem.W.mg_of X G p__law_program, k__law_program, PySem.W.mg_of X G p__law_lines, k__law_lines, PySem.W.mg_of X G p__law_number, k__law_number, PySem.W.mg_of X G p__law_names, k__law_names, PySem.W.mg_of X G p__law_return_fault, k__law_return_fault, PySem.W.mg_of X G p__law_formed, k__law_formed, PySem.W.mg_of X G p__law_known, k__law_known, PySem.W.mg_of X G p__law_step_fault, k__law_step_fault, PySem.W.mg_of X G p__law_due, k__law_due, PySem.W.mg_of X G p_lines_of, k_lines_of, PySem.W.mg_of X G p_number_of, k_number_of, PySem.W.mg_of X G p_number_behind, k_number_behind, PySem.W.mg_of X G p_looks_like_operand, k_looks_like_operand, PySem.W.mg_of X G p_number_in, k_number_in, PySem.W.mg_of X G p_read_program, k_read_program, PySem.W.mg_of X G p_law, k_law, PySem.W.mg_none_of X G z_ValueError, PySem.W.mg_none_of X G z_all, PySem.W.mg_none_of X G z_int, PySem.W.mg_none_of X G z_isinstance, PySem.W.mg_none_of X G z_len, PySem.W.mg_none_of X G z_max, PySem.W.mg_none_of X G z_min, PySem.W.mg_none_of X G z_range, PySem.W.mg_none_of X G z_str, PySem.W.mg_none_of X G z_tuple, ⟨_, PySem.W.mg_of X G q_DIGITS⟩, ⟨_, PySem.W.mg_of X G q_INPUTS⟩, ⟨_, PySem.W.mg_of X G q_MODULUS⟩, ⟨_, PySem.W.mg_of X G q_OPERATIONS, dq_strs (ys := ["+", "-", "*"]) lq_OPERATIONS (show 3 ≤ 1000 by decide) (.cons ⟨_, rfl⟩ (.cons ⟨_, rfl⟩ (.cons ⟨_, rfl⟩ (.nil))))⟩, ⟨_, PySem.W.mg_of X G q_STEPS⟩⟩
  have f__law_cell := fun_mk (st := s__law_cell) l__law_cell c__law_cell k__law_cell
  have b__law_cell := f__law_cell.binds (ps := ["_law_script", "_law_k"]) fun _ _ _ _ _ _ us hl => match us, hl with | [_, _], _ => rfl
  have f__law_draw := fun_mk (st := s__law_draw) l__law_draw c__law_draw k__law_draw
  have b__law_draw := f__law_draw.binds (ps := ["_law_script", "_law_k", "_law_sizes"]) fun _ _ _ _ _ _ us hl => match us, hl with | [_, _, _], _ => rfl
  have f__law_operand := fun_mk (st := s__law_operand) l__law_operand c__law_operand k__law_operand
  have b__law_operand := f__law_operand.binds (ps := ["_law_kind", "_law_number_here", "_law_inputs", "_law_step", "_law_modulus"]) fun _ _ _ _ _ _ us hl => match us, hl with | [_, _, _, _, _], _ => rfl
  have f__law_program := fun_mk (st := s__law_program) l__law_program c__law_program k__law_program
  have b__law_program := f__law_program.binds (ps := ["_law_script", "_law_at"]) fun _ _ _ _ _ _ us hl => match us, hl with | [_, _], _ => rfl
  have f__law_lines := fun_mk (st := s__law_lines) l__law_lines c__law_lines k__law_lines
  have b__law_lines := f__law_lines.binds (ps := ["_law_program_here"]) fun _ _ _ _ _ _ us hl => match us, hl with | [_], _ => rfl
  have f__law_number := fun_mk (st := s__law_number) l__law_number c__law_number k__law_number
  have b__law_number := f__law_number.binds (ps := ["_law_word"]) fun _ _ _ _ _ _ us hl => match us, hl with | [_], _ => rfl
  have f__law_names := fun_mk (st := s__law_names) l__law_names c__law_names k__law_names
  have b__law_names := f__law_names.binds (ps := ["_law_word", "_law_letter"]) fun _ _ _ _ _ _ us hl => match us, hl with | [_, _], _ => rfl
  have f__law_return_fault := fun_mk (st := s__law_return_fault) l__law_return_fault c__law_return_fault k__law_return_fault
  have b__law_return_fault := f__law_return_fault.binds (ps := ["_law_words", "_law_many"]) fun _ _ _ _ _ _ us hl => match us, hl with | [_, _], _ => rfl
  have f__law_formed := fun_mk (st := s__law_formed) l__law_formed c__law_formed k__law_formed
  have b__law_formed := f__law_formed.binds (ps := ["_law_word"]) fun _ _ _ _ _ _ us hl => match us, hl with | [_], _ => rfl
  have f__law_known := fun_mk (st := s__law_known) l__law_known c__law_known k__law_known
  have b__law_known := f__law_known.binds (ps := ["_law_word", "_law_modulus", "_law_inputs", "_law_many"]) fun _ _ _ _ _ _ us hl => match us, hl with | [_, _, _, _], _ => rfl
  have f__law_step_fault := fun_mk (st := s__law_step_fault) l__law_step_fault c__law_step_fault k__law_step_fault
  have b__law_step_fault := f__law_step_fault.binds (ps := ["_law_words", "_law_modulus", "_law_inputs", "_law_steps"]) fun _ _ _ _ _ _ us hl => match us, hl with | [_, _, _, _], _ => rfl
  have f__law_due := fun_mk (st := s__law_due) l__law_due c__law_due k__law_due
  have b__law_due := f__law_due.binds (ps := ["_law_lines_here"]) fun _ _ _ _ _ _ us hl => match us, hl with | [_], _ => rfl
  have f_Reader___init__ := fun_mk (st := s_Reader___init__) l_Reader___init__ c_Reader___init__ k_Reader___init__
  have b_Reader___init__ := f_Reader___init__.binds (ps := ["self"]) fun _ _ _ _ _ _ us hl => match us, hl with | [_], _ => rfl
  have f_lines_of := fun_mk (st := s_lines_of) l_lines_of c_lines_of k_lines_of
  have b_lines_of := f_lines_of.binds (ps := ["text"]) fun _ _ _ _ _ _ us hl => match us, hl with | [_], _ => rfl
  have f_number_of := fun_mk (st := s_number_of) l_number_of c_number_of k_number_of
  have b_number_of := f_number_of.binds (ps := ["word"]) fun _ _ _ _ _ _ us hl => match us, hl with | [_], _ => rfl
  have f_number_behind := fun_mk (st := s_number_behind) l_number_behind c_number_behind k_number_behind
  have b_number_behind := f_number_behind.binds (ps := ["letter", "word"]) fun _ _ _ _ _ _ us hl => match us, hl with | [_, _], _ => rfl
  have f_looks_like_operand := fun_mk (st := s_looks_like_operand) l_looks_like_operand c_looks_like_operand k_looks_like_operand
  have b_looks_like_operand := f_looks_like_operand.binds (ps := ["word"]) fun _ _ _ _ _ _ us hl => match us, hl with | [_], _ => rfl
  have f_Reader_is_operand := fun_mk (st := s_Reader_is_operand) l_Reader_is_operand c_Reader_is_operand k_Reader_is_operand
  have b_Reader_is_operand := f_Reader_is_operand.binds (ps := ["self", "word"]) fun _ _ _ _ _ _ us hl => match us, hl with | [_, _], _ => rfl
  have f_Reader_take_step := fun_mk (st := s_Reader_take_step) l_Reader_take_step c_Reader_take_step k_Reader_take_step
  have b_Reader_take_step := f_Reader_take_step.binds (ps := ["self", "words"]) fun _ _ _ _ _ _ us hl => match us, hl with | [_, _], _ => rfl
  have f_number_in := fun_mk (st := s_number_in) l_number_in c_number_in k_number_in
  have b_number_in := f_number_in.binds (ps := ["line", "word", "least", "most"]) fun _ _ _ _ _ _ us hl => match us, hl with | [_, _, _, _], _ => rfl
  have f_Reader_take_modulus := fun_mk (st := s_Reader_take_modulus) l_Reader_take_modulus c_Reader_take_modulus k_Reader_take_modulus
  have b_Reader_take_modulus := f_Reader_take_modulus.binds (ps := ["self", "line"]) fun _ _ _ _ _ _ us hl => match us, hl with | [_, _], _ => rfl
  have f_Reader_take_inputs := fun_mk (st := s_Reader_take_inputs) l_Reader_take_inputs c_Reader_take_inputs k_Reader_take_inputs
  have b_Reader_take_inputs := f_Reader_take_inputs.binds (ps := ["self", "line"]) fun _ _ _ _ _ _ us hl => match us, hl with | [_, _], _ => rfl
  have f_Reader_take_outputs := fun_mk (st := s_Reader_take_outputs) l_Reader_take_outputs c_Reader_take_outputs k_Reader_take_outputs
  have b_Reader_take_outputs := f_Reader_take_outputs.binds (ps := ["self", "words"]) fun _ _ _ _ _ _ us hl => match us, hl with | [_, _], _ => rfl
  have f_Reader_take := fun_mk (st := s_Reader_take) l_Reader_take c_Reader_take k_Reader_take
  have b_Reader_take := f_Reader_take.binds (ps := ["self", "place", "line"]) fun _ _ _ _ _ _ us hl => match us, hl with | [_, _, _], _ => rfl
  have f_read_program := fun_mk (st := s_read_program) l_read_program c_read_program k_read_program
  have b_read_program := f_read_program.binds (ps := ["text"]) fun _ _ _ _ _ _ us hl => match us, hl with | [_], _ => rfl
  have f_law := fun_mk (st := s_law) l_law c_law k_law
  refine law_at (fd := PySem.W.fnOf "law" "law" (defArgs s_law) (defBody s_law) (defScope s_law) .none kV_law dc_law pm_law an_law cd_law ct_law) rfl [(ct_number_of, Pt_number_of)] (List.forall_mem_cons.mpr ⟨tabs _ _ _ _ re_number_of tb_number_of, (fun _ h => nomatch h)⟩) (List.forall_mem_cons.mpr ⟨nt_number_of, (fun _ h => nomatch h)⟩) (fun s v => .of_eq rfl) fun base _ _ TBs => ?_
  have TB_number_of : GxR.TabB base mg ct_number_of Pt_number_of := TBs (ct_number_of, Pt_number_of) (by simp)
  have GX_ProgramError := okX_ProgramError (P := l.prog) (w := w) (base := base) (mg := mg) (ca := (caX aX_ProgramError [Pt_number_of])) (fd := PySem.W.ksFn "__init__" "ProgramError.__init__" (defArgs sI_ProgramError) (defBody sI_ProgramError) (defScope sI_ProgramError) Value.none kVX_ProgramError dcX_ProgramError pmX_ProgramError anX_ProgramError (.ref cdaX_ProgramError) ctX_ProgramError ccX_ProgramError) (cc := ccX_ProgramError) (cdv := .ref cdaX_ProgramError) ⟨oex_mk lx_ProgramError rv_ProgramError sa_ProgramError eb_ProgramError ty_ProgramError kx_ProgramError, ⟨_, _, _, _, _, _, _, _, _, rfl, li_ProgramError⟩, ci_ProgramError, ⟨_, _, _, _, _, _, _, rfl, ld_ProgramError, v_ProgramError, fi_ProgramError⟩, ⟨_, _, _, lc_ProgramError⟩, ⟨_, _, _, cl_ProgramError, cT_ProgramError, mr_ProgramError, fT_ProgramError⟩, sv_ProgramError, opq, PySem.W.mg_none_of X G zsup, top⟩
  have bX_ProgramError : Binds K (PySem.W.ksFn "__init__" "ProgramError.__init__" (defArgs sI_ProgramError) (defBody sI_ProgramError) (defScope sI_ProgramError) Value.none kVX_ProgramError dcX_ProgramError pmX_ProgramError anX_ProgramError (.ref cdaX_ProgramError) ctX_ProgramError ccX_ProgramError) ["self", "line", "what"] [] := .all fun us hl => match us, hl with | [_, _, _], _ => rfl
  have G__law_cell := ok__law_cell (P := l.prog) (w := w) (base := base) (ca := (caX aX_ProgramError [Pt_number_of])) T  f__law_cell
  have G__law_draw := ok__law_draw (P := l.prog) (w := w) (base := base) (ca := (caX aX_ProgramError [Pt_number_of])) T G__law_cell b__law_cell f__law_draw
  have G__law_operand := ok__law_operand (P := l.prog) (w := w) (base := base) (ca := (caX aX_ProgramError [Pt_number_of])) T  f__law_operand
  have G__law_program := ok__law_program (P := l.prog) (w := w) (base := base) (ca := (caX aX_ProgramError [Pt_number_of])) T G__law_draw b__law_draw G__law_operand b__law_operand f__law_program
  have G__law_lines := ok__law_lines (P := l.prog) (w := w) (base := base) (ca := (caX aX_ProgramError [Pt_number_of])) T  f__law_lines
  have G__law_number := ok__law_number (P := l.prog) (w := w) (base := base) (ca := (caX aX_ProgramError [Pt_number_of])) T  f__law_number
  have G__law_names := ok__law_names (P := l.prog) (w := w) (base := base) (ca := (caX aX_ProgramError [Pt_number_of])) T G__law_number b__law_number f__law_names
  have G__law_return_fault := ok__law_return_fault (P := l.prog) (w := w) (base := base) (ca := (caX aX_ProgramError [Pt_number_of])) T G__law_names b__law_names f__law_return_fault
  have G__law_formed := ok__law_formed (P := l.prog) (w := w) (base := base) (ca := (caX aX_ProgramError [Pt_number_of])) T G__law_number b__law_number G__law_names b__law_names f__law_formed
  have G__law_known := ok__law_known (P := l.prog) (w := w) (base := base) (ca := (caX aX_ProgramError [Pt_number_of])) T G__law_number b__law_number G__law_names b__law_names f__law_known
  have G__law_step_fault := ok__law_step_fault (P := l.prog) (w := w) (base := base) (ca := (caX aX_ProgramError [Pt_number_of])) T G__law_names b__law_names G__law_formed b__law_formed G__law_known b__law_known f__law_step_fault
  have G__law_due := ok__law_due (P := l.prog) (w := w) (base := base) (ca := (caX aX_ProgramError [Pt_number_of])) T G__law_number b__law_number G__law_return_fault b__law_return_fault G__law_step_fault b__law_step_fault f__law_due
  have G_Reader___init__ := ok_Reader___init__ (P := l.prog) (w := w) (base := base) (ca := (caX aX_ProgramError [Pt_number_of])) T  f_Reader___init__
  have G_lines_of := ok_lines_of (P := l.prog) (w := w) (base := base) (ca := (caX aX_ProgramError [Pt_number_of])) T  f_lines_of
  have G_number_of := ok_number_of (P := l.prog) (w := w) (base := base) (ca := (caX aX_ProgramError [Pt_number_of])) T  f_number_of TB_number_of (by first | (simp; done) | exact List.mem_cons_self | exact List.mem_cons_of_mem _ List.mem_cons_self) hc_number_of
  have G_number_behind := ok_number_behind (P := l.prog) (w := w) (base := base) (ca := (caX aX_ProgramError [Pt_number_of])) T G_number_of b_number_of f_number_behind
  have G_looks_like_operand := ok_looks_like_operand (P := l.prog) (w := w) (base := base) (ca := (caX aX_ProgramError [Pt_number_of])) T G_number_of b_number_of G_number_behind b_number_behind f_looks_like_operand
  have G_Reader_is_operand := ok_Reader_is_operand (P := l.prog) (w := w) (base := base) (ca := (caX aX_ProgramError [Pt_number_of])) T G_number_behind b_number_behind G_number_of b_number_of f_Reader_is_operand
  have G_Reader_take_step := ok_Reader_take_step (P := l.prog) (w := w) (base := base) (ca := (caX aX_ProgramError [Pt_number_of])) T G_number_behind b_number_behind G_looks_like_operand b_looks_like_operand G_Reader_is_operand b_Reader_is_operand f_Reader_take_step
  have G_number_in := ok_number_in (P := l.prog) (w := w) (base := base) (ca := (caX aX_ProgramError [Pt_number_of])) T G_number_of b_number_of f_number_in
  have G_Reader_take_modulus := ok_Reader_take_modulus (P := l.prog) (w := w) (base := base) (ca := (caX aX_ProgramError [Pt_number_of])) T G_number_in b_number_in f_Reader_take_modulus
  have G_Reader_take_inputs := ok_Reader_take_inputs (P := l.prog) (w := w) (base := base) (ca := (caX aX_ProgramError [Pt_number_of])) T G_number_in b_number_in f_Reader_take_inputs
  have G_Reader_take_outputs := ok_Reader_take_outputs (P := l.prog) (w := w) (base := base) (ca := (caX aX_ProgramError [Pt_number_of])) T G_number_behind b_number_behind f_Reader_take_outputs
  have G_Reader_take := ok_Reader_take (P := l.prog) (w := w) (base := base) (ca := (caX aX_ProgramError [Pt_number_of])) T G_Reader_take_modulus b_Reader_take_modulus G_Reader_take_inputs b_Reader_take_inputs G_Reader_take_outputs b_Reader_take_outputs G_Reader_take_step b_Reader_take_step f_Reader_take
  have G_read_program := ok_read_program (P := l.prog) (w := w) (base := base) (ca := (caX aX_ProgramError [Pt_number_of])) T G_lines_of b_lines_of G_Reader___init__ b_Reader___init__ G_Reader_take b_Reader_take GX_ProgramError bX_ProgramError f_read_program
  have G_law := ok_law (P := l.prog) (w := w) (base := base) (ca := (caX aX_ProgramError [Pt_number_of])) T G__law_program b__law_program G__law_lines b__law_lines G__law_draw b__law_draw G__law_due b__law_due G_read_program b_read_program f_law
  exact G_law.imp fun vs H Q E h => law_trueT law_holds vs H Q E h.1 h.2
end My
open PySem PySem.W PyProof.Rows
set_option maxHeartbeats 0 in
theorem PySem.Challenge.cw_tidyback_k02_faults_of_texts_holds : PySem.Challenge.rw_tidyback_k02_faults_of_texts.Holds := by
  w_on; o_law; k_head; (case hw => w_witness2)
  k_fill
  refine VL.walk_tab (l := PySem.Challenge.rw_tidyback_k02_faults_of_texts) (n := 63) (k := 7) (x := "_law_script") (CX := fun w => L2.CX PySem.Challenge.rw_tidyback_k02_faults_of_texts.prog w) rfl (by decide) rfl ⟨rfl, by decide, by decide⟩ (fun w h Y => PySem.W.kIn_of Y) ?F (fun _ _ _ _ _ h => by
    obtain ⟨_, _, _, _, _, _, _, _, _, _, _, _, z⟩ := h
    exact z)
  case F =>
    intro w mg fa h _ KX G hmg tabs
    refine' My.all_mk KX G hmg tabs ?pc_Reader ?pg_Reader ?hd2_Reader ?po_Reader ?sa2_Reader ?p__law_cell ?l__law_cell ?c__law_cell ?k__law_cell ?p__law_draw ?l__law_draw ?c__law_draw ?k__law_draw ?p__law_operand ?l__law_operand ?c__law_operand ?k__law_operand ?p__law_program ?l__law_program ?c__law_program ?k__law_program ?p__law_lines ?l__law_lines ?c__law_lines ?k__law_lines ?p__law_number ?l__law_number ?c__law_number ?k__law_number ?p__law_names ?l__law_names ?c__law_names ?k__law_names ?p__law_return_fault ?l__law_return_fault ?c__law_return_fault ?k__law_return_fault ?p__law_formed ?l__law_formed ?c__law_formed ?k__law_formed ?p__law_known ?l__law_known ?c__law_known ?k__law_known ?p__law_step_fault ?l__law_step_fault ?c__law_step_fault ?k__law_step_fault ?p__law_due ?l__law_due ?c__law_due ?k__law_due ?at_Reader___init__ ?is_Reader___init__ ?l_Reader___init__ ?c_Reader___init__ ?k_Reader___init__ ?p_lines_of ?l_lines_of ?c_lines_of ?k_lines_of ?p_number_of ?l_number_of ?c_number_of ?k_number_of ?p_number_behind ?l_number_behind ?c_number_behind ?k_number_behind ?p_looks_like_operand ?l_looks_like_operand ?c_looks_like_operand ?k_looks_like_operand ?at_Reader_is_operand ?is_Reader_is_operand ?l_Reader_is_operand ?c_Reader_is_operand ?k_Reader_is_operand ?at_Reader_take_step ?is_Reader_take_step ?l_Reader_take_step ?c_Reader_take_step ?k_Reader_take_step ?p_number_in ?l_number_in ?c_number_in ?k_number_in ?at_Reader_take_modulus ?is_Reader_take_modulus ?l_Reader_take_modulus ?c_Reader_take_modulus ?k_Reader_take_modulus ?at_Reader_take_inputs ?is_Reader_take_inputs ?l_Reader_take_inputs ?c_Reader_take_inputs ?k_Reader_take_inputs ?at_Reader_take_outputs ?is_Reader_take_outputs ?l_Reader_take_outputs ?c_Reader_take_outputs ?k_Reader_take_outputs ?at_Reader_take ?is_Reader_take ?l_Reader_take ?c_Reader_take ?k_Reader_take ?p_read_program ?l_read_program ?c_read_program ?k_read_program ?p_law ?l_law ?c_law ?k_law ?nf_Reader_inputs ?nf_Reader_modulus ?nf_Reader_outputs ?nf_Reader_steps ?mki_Reader ?kc_Reader ?tb_number_of ?re_number_of ?nt_number_of ?hc_number_of ?z_ValueError ?z_all ?z_int ?z_isinstance ?z_len ?z_max ?z_min ?z_range ?z_str ?z_tuple ?q_DIGITS ?q_INPUTS ?q_MODULUS ?q_OPERATIONS ?lq_OPERATIONS ?q_STEPS ?px_TidyError ?eb_TidyError ?hd_TidyError ?ty_TidyError ?px_ProgramError ?eb_ProgramError ?hd_ProgramError ?ty_ProgramError ?px_TaskError ?eb_TaskError ?hd_TaskError ?ty_TaskError ?px_PlanError ?eb_PlanError ?hd_PlanError ?ty_PlanError ?ss_ProgramError ?ss_TaskError ?ss_PlanError ?sb_ProgramError_TidyError ?sb_ProgramError_ProgramError ?sb_ProgramError_TaskError ?sb_ProgramError_PlanError ?lx_ProgramError ?rv_ProgramError ?sa_ProgramError ?kx_ProgramError ?ix_ProgramError ?yi_ProgramError ?li_ProgramError ?ci_ProgramError ?ld_ProgramError ?v_ProgramError ?fi_ProgramError ?lc_ProgramError ?cl_ProgramError ?pT_ProgramError ?cT_ProgramError ?mr_ProgramError ?fT_ProgramError ?sv_ProgramError ?ga_ProgramError ?gg_ProgramError ?no_ProgramError_line ?no_ProgramError_what ?ac_ProgramError ?mo_ProgramError ?sn0 ?tk0 ?opq ?zsup ?top
    (case pc_Reader => k_is); (case pg_Reader => k_is); (case hd2_Reader => k_is); (case po_Reader => k_is); (case sa2_Reader => k_is); (case p__law_cell => k_is); (case l__law_cell => k_is); (case c__law_cell => k_is); (case k__law_cell => k_is); (case p__law_draw => k_is); (case l__law_draw => k_is); (case c__law_draw => k_is); (case k__law_draw => k_is); (case p__law_operand => k_is); (case l__law_operand => k_is); (case c__law_operand => k_is); (case k__law_operand => k_is); (case p__law_program => k_is); (case l__law_program => k_is); (case c__law_program => k_is); (case k__law_program => k_is); (case p__law_lines => k_is); (case l__law_lines => k_is); (case c__law_lines => k_is); (case k__law_lines => k_is); (case p__law_number => k_is); (case l__law_number => k_is); (case c__law_number => k_is); (case k__law_number => k_is); (case p__law_names => k_is); (case l__law_names => k_is); (case c__law_names => k_is); (case k__law_names => k_is); (case p__law_return_fault => k_is); (case l__law_return_fault => k_is); (case c__law_return_fault => k_is); (case k__law_return_fault => k_is); (case p__law_formed => k_is); (case l__law_formed => k_is); (case c__law_formed => k_is); (case k__law_formed => k_is); (case p__law_known => k_is); (case l__law_known => k_is); (case c__law_known => k_is); (case k__law_known => k_is); (case p__law_step_fault => k_is); (case l__law_step_fault => k_is); (case c__law_step_fault => k_is); (case k__law_step_fault => k_is); (case p__law_due => k_is); (case l__law_due => k_is); (case c__law_due => k_is); (case k__law_due => k_is); (case at_Reader___init__ => k_is); (case is_Reader___init__ => k_is); (case l_Reader___init__ => k_is); (case c_Reader___init__ => k_is); (case k_Reader___init__ => k_is); (case p_lines_of => k_is); (case l_lines_of => k_is); (case c_lines_of => k_is); (case k_lines_of => k_is); (case p_number_of => k_is); (case l_number_of => k_is); (case c_number_of => k_is); (case k_number_of => k_is); (case p_number_behind => k_is); (case l_number_behind => k_is); (case c_number_behind => k_is); (case k_number_behind => k_is); (case p_looks_like_operand => k_is); (case l_looks_like_operand => k_is); (case c_looks_like_operand => k_is); (case k_looks_like_operand => k_is); (case at_Reader_is_operand => k_is); (case is_Reader_is_operand => k_is); (case l_Reader_is_operand => k_is); (case c_Reader_is_operand => k_is); (case k_Reader_is_operand => k_is); (case at_Reader_take_step => k_is); (case is_Reader_take_step => k_is); (case l_Reader_take_step => k_is); (case c_Reader_take_step => k_is); (case k_Reader_take_step => k_is); (case p_number_in => k_is); (case l_number_in => k_is); (case c_number_in => k_is); (case k_number_in => k_is); (case at_Reader_take_modulus => k_is); (case is_Reader_take_modulus => k_is); (case l_Reader_take_modulus => k_is); (case c_Reader_take_modulus => k_is); (case k_Reader_take_modulus => k_is); (case at_Reader_take_inputs => k_is); (case is_Reader_take_inputs => k_is); (case l_Reader_take_inputs => k_is); (case c_Reader_take_inputs => k_is); (case k_Reader_take_inputs => k_is); (case at_Reader_take_outputs => k_is); (case is_Reader_take_outputs => k_is); (case l_Reader_take_outputs => k_is); (case c_Reader_take_outputs => k_is); (case k_Reader_take_outputs => k_is); (case at_Reader_take => k_is); (case is_Reader_take => k_is); (case l_Reader_take => k_is); (case c_Reader_take => k_is); (case k_Reader_take => k_is); (case p_read_program => k_is); (case l_read_program => k_is); (case c_read_program => k_is); (case k_read_program => k_is); (case p_law => k_is); (case l_law => k_is); (case c_law => k_is); (case k_law => k_is); (case nf_Reader_inputs => k_is); (case nf_Reader_modulus => k_is); (case nf_Reader_outputs => k_is); (case nf_Reader_steps => k_is); (case mki_Reader => k_is); (case kc_Reader => k_is); (case tb_number_of => (first | rfl | k_is)); (case re_number_of => (first | rfl | decide +kernel)); (case nt_number_of => (first | rfl | decide +kernel)); (case hc_number_of => rfl); (case z_ValueError => k_is); (case z_all => k_is); (case z_int => k_is); (case z_isinstance => k_is); (case z_len => k_is); (case z_max => k_is); (case z_min => k_is); (case z_range => k_is); (case z_str => k_is); (case z_tuple => k_is); (case q_DIGITS => k_is); (case q_INPUTS => k_is); (case q_MODULUS => k_is); (case q_OPERATIONS => k_is); (case lq_OPERATIONS => k_is); (case q_STEPS => k_is); (case px_TidyError => k_is); (case eb_TidyError => k_is); (case hd_TidyError => k_is); (case ty_TidyError => k_is); (case px_ProgramError => k_is); (case eb_ProgramError => k_is); (case hd_ProgramError => k_is); (case ty_ProgramError => k_is); (case px_TaskError => k_is); (case eb_TaskError => k_is); (case hd_TaskError => k_is); (case ty_TaskError => k_is); (case px_PlanError => k_is); (case eb_PlanError => k_is); (case hd_PlanError => k_is); (case ty_PlanError => k_is); (case ss_ProgramError => k_is); (case ss_TaskError => k_is); (case ss_PlanError => k_is); (case sb_ProgramError_TidyError => k_is); (case sb_ProgramError_ProgramError => k_is); (case sb_ProgramError_TaskError => k_is); (case sb_ProgramError_PlanError => k_is); (case lx_ProgramError => k_is); (case rv_ProgramError => rfl); (case sa_ProgramError => k_is); (case kx_ProgramError => k_is); (case ix_ProgramError => k_is); (case yi_ProgramError => k_is); (case li_ProgramError => k_is); (case ci_ProgramError => k_is); (case ld_ProgramError => k_is); (case v_ProgramError => rfl); (case fi_ProgramError => (first | rfl | decide +kernel)); (case lc_ProgramError => k_is); (case cl_ProgramError => k_is); (case pT_ProgramError => k_is); (case cT_ProgramError => k_is); (case mr_ProgramError => rfl); (case fT_ProgramError => k_is); (case sv_ProgramError => k_is); (case ga_ProgramError => k_is); (case gg_ProgramError => k_is); (case no_ProgramError_line => k_is); (case no_ProgramError_what => k_is); (case ac_ProgramError => k_is); (case mo_ProgramError => k_is); (case sn0 => k_is); (case tk0 => k_is); (case opq => k_is); (case zsup => k_is); (case top => (first | rfl | decide +kernel))
#print axioms PySem.Challenge.cw_tidyback_k02_faults_of_texts_holds
