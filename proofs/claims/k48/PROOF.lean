import PyProof.Rows.All
import Wide.All
import OpenK.AllK
import Wide.FinOn
import HandS.ForMost
import HandS.Exc
import HandS.TryOnly
import HandS.ExcOwn
import HandS.WordsExc
import HandS.CallSlots
import HandS.Deep
import HandS.TupAny
import HandS.SortInts
import HandS.Style
import HandS.IsInst
import HandS.Iter
import HandS.Defaults
import HandS.MakeKwOnly
import HandS.Dict
import KE.KDictDisplayH
import PySem.Challenge.RW_tidyback_k48_contents_step_by_step
set_option Elab.async false
set_option linter.all false
set_option maxRecDepth 100000
set_option maxHeartbeats 8000000
set_option pp.maxSteps 300
namespace VL
open PySem PySem.Spec PyProof.Rows L2
inductive Rs (α : Type) where
  | ok (a : α)
  | ex (c : Nat) (fs : List (Str × PyData))
  | no
def Rs.bind {α β : Type} : Rs α → (α → Rs β) → Rs β
  | .ok a, f => f a
  | .ex c fs, _ => .ex c fs
  | .no, _ => .no
@[simp] theorem Rs.bind_ok {α β : Type} (a : α) (f : α → Rs β) : (Rs.ok a).bind f = f a := rfl
@[simp] theorem Rs.bind_ex {α β : Type} (c fs) (f : α → Rs β) : (Rs.ex c fs : Rs α).bind f = .ex c fs := rfl
@[simp] theorem Rs.bind_no {α β : Type} (f : α → Rs β) : (Rs.no : Rs α).bind f = .no := rfl
structure CA where
  f : Nat → Addr
  T : List Addr
instance : CoeFun CA (fun _ => Nat → Addr) := ⟨CA.f⟩
inductive FV where
  | d (x : PyData)
  | ol (xs : List PyData)
inductive RV where
  | d (x : PyData)
  | ol (xs : List PyData) | bl (xs : List PyData)
  | od (kvs : List (Key × PyData)) | bd (kvs : List (Key × PyData))
  | ot (kvs : List (List Int × PyData)) | bt (kvs : List (List Int × PyData))
  | sc (ns : List Int)
  | xo (a dd : Addr) (c : Nat) (fs : List (Str × PyData))
  | t3 (x : PyData) (ys : List PyData) (kvs : List (Key × PyData))
  | fd (kvs : List (Key × PyData))
  | ob (me : Bool) (x : Str) (fs : List (Str × FV))
  | bo (x : Str) (fs : List (Str × FV))
abbrev VEnv := List (Option RV)
def NDT (K : PySem.W.Frag) (F : Hp) (a : Addr) : Prop := (∃ o u, F a = some (.frz o u) ∧ o.dict = none) ∨ ∃ o, K.lookup a = some o ∧ o.dict = none
def SqN (K : PySem.W.Frag) (F : Hp) (a : Addr) (xs : List V) : Prop := SqT K F a xs ∧ NDT K F a
mutual
inductive Dq (K : PySem.W.Frag) (F : Hp) : V → PyData → Prop
  | non : Dq K F .non .none
  | bl (b : Bool) : Dq K F (.bl b) (.bool b)
  | int (i : Int) : Dq K F (.int i) (.int i)
  | str (x : Str) : Dq K F (.str x) (.str x)
  | lst {a : Addr} {xs : List V} {ds : List PyData} : F a = some (.lst xs) → DqA K F xs ds → Dq K F (.ref a) (.list ds)
  | tup {a : Addr} {xs : List V} {ds : List PyData} : SqN K F a xs → DqA K F xs ds → Dq K F (.ref a) (.tuple ds)
inductive DqA (K : PySem.W.Frag) (F : Hp) : List V → List PyData → Prop
  | nil : DqA K F [] []
  | cons {v : V} {vs : List V} {d : PyData} {ds : List PyData} : Dq K F v d → DqA K F vs ds → DqA K F (v :: vs) (d :: ds)
end
theorem same_seqT {K : PySem.W.Frag} {H H' : Hp} {a : Addr} {xs : List V} (e : Same H H') (h : SqT K H a xs) : SqT K H' a xs := by
  rcases h with (h | ⟨o, h⟩) | h
  · exact .inl (.inl (e _ _ h))
  · exact .inl (.inr ⟨o, e _ _ h⟩)
  · exact .inr h
theorem same_seqN {K : PySem.W.Frag} {H H' : Hp} {a : Addr} {xs : List V} (e : Same H H') (h : SqN K H a xs) : SqN K H' a xs :=
  ⟨same_seqT e h.1, h.2.imp (fun ⟨o, u, h1, h2⟩ => ⟨o, u, e _ _ h1, h2⟩) id⟩
theorem SqN.frz {K : PySem.W.Frag} {H : Hp} {a : Addr} {xs : List V} {o : Obj} (n : o.dict = none) (h : H a = some (.frz o (.tup xs))) : SqN K H a xs := ⟨.inl (.inr ⟨o, h⟩), .inl ⟨o, _, h, n⟩⟩
mutual
theorem Dq.mono {K : PySem.W.Frag} {F F' : Hp} (e : Same F F') : ∀ (d : PyData) (v : V), Dq K F v d → Dq K F' v d
  | .none, _, h => by cases h; exact .non
  | .bool b, _, h => by cases h; exact .bl b
  | .int i, _, h => by cases h; exact .int i
  | .str x, _, h => by cases h; exact .str x
  | .list ds, _, h => by
    cases h with
    | lst h1 h2 => exact .lst (e _ _ h1) (DqA.mono e ds _ h2)
  | .tuple ds, _, h => by
    cases h with
    | tup h1 h2 => exact .tup (same_seqN e h1) (DqA.mono e ds _ h2)
  | .dict _, _, h => by cases h
theorem DqA.mono {K : PySem.W.Frag} {F F' : Hp} (e : Same F F') : ∀ (ds : List PyData) (vs : List V), DqA K F vs ds → DqA K F' vs ds
  | [], _, h => by cases h; exact .nil
  | d :: ds, _, h => by
    cases h with
    | cons h1 h2 => exact .cons (Dq.mono e d _ h1) (DqA.mono e ds _ h2)
end
mutual
theorem Dq.dp {K : PySem.W.Frag} {F : Hp} : ∀ (d : PyData) (v : V), Dq K F v d → Dp K F v d
  | .none, _, h => by cases h; exact .non
  | .bool b, _, h => by cases h; exact .bl b
  | .int i, _, h => by cases h; exact .int i
  | .str x, _, h => by cases h; exact .str x
  | .list ds, _, h => by
    cases h with
    | lst h1 h2 => exact .lst (SqL.of h1) (DqA.dp ds _ h2)
  | .tuple ds, _, h => by
    cases h with
    | tup h1 h2 => exact .tup h1.1 (DqA.dp ds _ h2)
  | .dict _, _, h => by cases h
theorem DqA.dp {K : PySem.W.Frag} {F : Hp} : ∀ (ds : List PyData) (vs : List V), DqA K F vs ds → DpAll K F vs ds
  | [], _, h => by cases h; exact .nil
  | d :: ds, _, h => by
    cases h with
    | cons h1 h2 => exact .cons (Dq.dp d _ h1) (DqA.dp ds _ h2)
end
theorem DqA.length {K : PySem.W.Frag} {F : Hp} : ∀ {ds : List PyData} {vs : List V}, DqA K F vs ds → vs.length = ds.length
  | [], _, h => by cases h; rfl
  | d :: ds, _, h => by
    cases h with
    | cons h1 h2 => simp [DqA.length h2]
theorem DqA.get {K : PySem.W.Frag} {F : Hp} : ∀ {ds : List PyData} {vs : List V} {i : Nat} {d : PyData}, DqA K F vs ds → ds[i]? = some d → ∃ v, vs[i]? = some v ∧ Dq K F v d
  | [], _, i, _, h, e => by simp at e
  | d :: ds, _, 0, x, h, e => by
    cases h with
    | cons h1 h2 => simp at e; subst e; exact ⟨_, rfl, h1⟩
  | d :: ds, _, i + 1, x, h, e => by
    cases h with
    | cons h1 h2 =>
      obtain ⟨v, q1, q2⟩ := DqA.get (i := i) h2 (by simpa using e)
      exact ⟨v, by simpa using q1, q2⟩
theorem DqA.get' {K : PySem.W.Frag} {F : Hp} : ∀ {ds : List PyData} {vs : List V} {i : Nat} {v : V}, DqA K F vs ds → vs[i]? = some v → ∃ d, ds[i]? = some d ∧ Dq K F v d
  | [], _, i, _, h, e => by cases h; simp at e
  | d :: ds, _, 0, x, h, e => by
    cases h with
    | cons h1 h2 => simp at e; subst e; exact ⟨_, rfl, h1⟩
  | d :: ds, _, i + 1, x, h, e => by
    cases h with
    | cons h1 h2 =>
      obtain ⟨v, q1, q2⟩ := DqA.get' (i := i) h2 (by simpa using e)
      exact ⟨v, by simpa using q1, q2⟩
theorem DqA.append {K : PySem.W.Frag} {F : Hp} : ∀ {ds es : List PyData} {vs ws : List V}, DqA K F vs ds → DqA K F ws es → DqA K F (vs ++ ws) (ds ++ es)
  | [], _, _, _, h, k => by cases h; exact k
  | d :: ds, _, _, _, h, k => by
    cases h with
    | cons h1 h2 => exact .cons h1 (DqA.append h2 k)
theorem DqA.take {K : PySem.W.Frag} {F : Hp} : ∀ {ds : List PyData} {vs : List V} (n : Nat), DqA K F vs ds → DqA K F (vs.take n) (ds.take n)
  | _, _, 0, _ => .nil
  | [], _, n + 1, h => by cases h; exact .nil
  | d :: ds, _, n + 1, h => by
    cases h with
    | cons h1 h2 => exact .cons h1 (DqA.take n h2)
theorem DqA.drop {K : PySem.W.Frag} {F : Hp} : ∀ {ds : List PyData} {vs : List V} (n : Nat), DqA K F vs ds → DqA K F (vs.drop n) (ds.drop n)
  | _, _, 0, h => h
  | [], _, n + 1, h => by cases h; exact .nil
  | d :: ds, _, n + 1, h => by
    cases h with
    | cons h1 h2 => exact DqA.drop n h2
theorem DqA.set {K : PySem.W.Frag} {F : Hp} {v : V} {d : PyData} (q : Dq K F v d) : ∀ {ds : List PyData} {vs : List V} (n : Nat), DqA K F vs ds → DqA K F (vs.set n v) (ds.set n d)
  | [], _, n, h => by cases h; exact .nil
  | _ :: ds, _, 0, h => by
    cases h with
    | cons h1 h2 => exact .cons q h2
  | _ :: ds, _, n + 1, h => by
    cases h with
    | cons h1 h2 => exact .cons h1 (DqA.set q n h2)
theorem DqA.of_ints {K : PySem.W.Frag} {F : Hp} : ∀ (ns : List Int), DqA K F (ns.map V.int) (ns.map PyData.int)
  | [] => .nil
  | i :: ns => .cons (.int i) (DqA.of_ints ns)
class NT (o : HO) : Prop where
  nt : ∀ ps, o ≠ .tbl ps
instance {xs} : NT (.lst xs) := ⟨fun _ z => by cases z⟩
instance {xs} : NT (.tup xs) := ⟨fun _ z => by cases z⟩
instance {xs} : NT (.dK xs) := ⟨fun _ z => by cases z⟩
instance {xs} : NT (.dT xs) := ⟨fun _ z => by cases z⟩
instance {S n} : NT (.set S n) := ⟨fun _ z => by cases z⟩
instance {C d f} : NT (.ins C d f) := ⟨fun _ z => by cases z⟩
instance {x} : NT (.own x) := ⟨fun _ z => by cases z⟩
instance {x} : NT (.xd x) := ⟨fun _ z => by cases z⟩
instance {f x} : NT (.met f x) := ⟨fun _ z => by cases z⟩
instance {f x} : NT (.rng f x) := ⟨fun _ z => by cases z⟩
instance {f x} : NT (.frz f x) := ⟨fun _ z => by cases z⟩
instance {f} : NT (.ext f) := ⟨fun _ z => by cases z⟩
structure Cfg (F H : Hp) : Prop where
  sub : Same F H
  tup : ∀ a xs, H a = some (.tup xs) → F a = some (.tup xs)
  nt : ∀ a ps, F a ≠ some (.tbl ps)
structure SameN (H H' : Hp) : Prop where
  st : ∀ a o, H a = some o → (∀ ps, o ≠ .tbl ps) → H' a = some o
  tb : ∀ a ps, H a = some (.tbl ps) → ∃ ps', H' a = some (.tbl ps') ∧ (TriplesOk ps.toList → TriplesOk ps'.toList)
instance {H H' : Hp} : CoeFun (SameN H H') (fun _ => ∀ a o [NT o], H a = some o → H' a = some o) := ⟨fun e => (fun a o [i : NT o] h => e.st a o h i.nt)⟩
theorem _root_.L2.Same.n {H H' : Hp} (e : Same H H') : SameN H H' := ⟨fun a o h _ => e a o h, fun a ps h => ⟨ps, e a _ h, id⟩⟩
theorem SameN.refl (H : Hp) : SameN H H := (Same.refl H).n
theorem SameN.trans {H H1 H2 : Hp} (a : SameN H H1) (b : SameN H1 H2) : SameN H H2 :=
  ⟨fun c o h nt => b.st c o (a.st c o h nt) nt, fun c ps h => by
    obtain ⟨p1, h1, t1⟩ := a.tb c ps h
    obtain ⟨p2, h2, t2⟩ := b.tb c p1 h1
    exact ⟨p2, h2, fun t => t2 (t1 t)⟩⟩
theorem SameN.free {H H' : Hp} (e : SameN H H') {a : Addr} (h : H' a = none) : H a = none := by
  cases q : H a with
  | none => rfl
  | some o =>
    by_cases t : ∃ ps, o = .tbl ps
    · obtain ⟨ps, rfl⟩ := t
      obtain ⟨ps', h2, _⟩ := e.tb a ps q
      rw [h] at h2; cases h2
    · have := e.st a o q fun ps z => t ⟨ps, z⟩
      rw [h] at this; cases this
theorem SameN.seq {K : PySem.W.Frag} {H H' : Hp} {a : Addr} {xs : List V} (e : SameN H H') (h : SqL K H a xs) : SqL K H' a xs := by
  rcases h with (h | ⟨o, h⟩) | h
  · exact .inl (.inl (e _ _ h))
  · exact .inl (.inr ⟨o, e _ _ h⟩)
  · exact .inr h
theorem SameN.seqT {K : PySem.W.Frag} {H H' : Hp} {a : Addr} {xs : List V} (e : SameN H H') (h : SqT K H a xs) : SqT K H' a xs := by
  rcases h with (h | ⟨o, h⟩) | h
  · exact .inl (.inl (e _ _ h))
  · exact .inl (.inr ⟨o, e _ _ h⟩)
  · exact .inr h
structure Grow (F H F' H' : Hp) : Prop where
  cfg : Cfg F' H'
  ff : Same F F'
  hh : SameN H H'
  nw : ∀ a o, F' a = some o → F a = some o ∨ H a = none
theorem Grow.refl {F H : Hp} (c : Cfg F H) : Grow F H F H := ⟨c, Same.refl _, SameN.refl _, fun _ _ h => .inl h⟩
theorem same_none {H H' : Hp} (e : Same H H') {a : Addr} (h : H' a = none) : H a = none := e.free h
theorem none_n {H H' : Hp} (e : SameN H H') {a : Addr} (h : H' a = none) : H a = none := e.free h
theorem Grow.trans {F H F1 H1 F2 H2 : Hp} (a : Grow F H F1 H1) (b : Grow F1 H1 F2 H2) : Grow F H F2 H2 :=
  ⟨b.cfg, a.ff.trans b.ff, a.hh.trans b.hh, fun x o h => by
    rcases b.nw x o h with h | h
    · exact a.nw x o h
    · exact .inr (none_n a.hh h)⟩
theorem Grow.stillFree {F H F' H' : Hp} (g : Grow F H F' H') {p : Addr} {o : HO} (f : F p = none) (h : H p = some o) : F' p = none := by
  cases q : F' p with
  | none => rfl
  | some u =>
    rcases g.nw p u q with z | z
    · rw [f] at z; cases z
    · rw [h] at z; cases z
theorem Grow.newF {F H : Hp} (c : Cfg F H) {p : Addr} (o : HO) [i : NT o] (n : H p = none) : Grow F H (upd F p o) (upd H p o) where
  cfg := ⟨fun b u h => by
      by_cases e : b = p
      · subst e; rw [upd_same] at h ⊢; exact h
      · rw [upd_ne e] at h ⊢; exact c.sub b u h, fun b xs h => by
      by_cases e : b = p
      · subst e; rw [upd_same] at h ⊢; exact h
      · rw [upd_ne e] at h ⊢; exact c.tup b xs h, fun b ps h => by
      by_cases e : b = p
      · subst e; rw [upd_same] at h; exact i.nt ps (Option.some.inj h)
      · rw [upd_ne e] at h; exact c.nt b ps h⟩
  ff := fun b u h => by rw [upd_ne (ne_of_none h (same_none c.sub n))]; exact h
  hh := Same.n fun b u h => by rw [upd_ne (ne_of_none h n)]; exact h
  nw := fun b u h => by
    by_cases e : b = p
    · subst e; exact .inr n
    · rw [upd_ne e] at h; exact .inl h
theorem Grow.newO {F H : Hp} (c : Cfg F H) {p : Addr} (o : HO) (n : H p = none) (nt : ∀ xs, o ≠ .tup xs) : Grow F H F (upd H p o) where
  cfg := ⟨fun b u h => by rw [upd_ne (ne_of_none (c.sub _ _ h) n)]; exact c.sub b u h, fun b xs h => by
      by_cases e : b = p
      · subst e; rw [upd_same] at h; exact absurd (Option.some.inj h) (nt xs)
      · rw [upd_ne e] at h; exact c.tup b xs h, c.nt⟩
  ff := Same.refl _
  hh := Same.n fun b u h => by rw [upd_ne (ne_of_none h n)]; exact h
  nw := fun _ _ h => .inl h
theorem Grow.freeze {F0 H0 F H : Hp} (g : Grow F0 H0 F H) {p : Addr} {o : HO} [i : NT o] (n0 : H0 p = none) (f : F p = none) (h : H p = some o) : Grow F0 H0 (upd F p o) H where
  cfg := ⟨fun b u q => by
      by_cases e : b = p
      · subst e; rw [upd_same] at q; cases q; exact h
      · rw [upd_ne e] at q; exact g.cfg.sub b u q, fun b xs q => by
      by_cases e : b = p
      · subst e; rw [q] at h; cases h; exact upd_same
      · rw [upd_ne e]; exact g.cfg.tup b xs q, fun b ps q => by
      by_cases e : b = p
      · subst e; rw [upd_same] at q; exact i.nt ps (Option.some.inj q)
      · rw [upd_ne e] at q; exact g.cfg.nt b ps q⟩
  ff := fun b u q => by
    have : b ≠ p := fun e => by subst e; rw [g.ff b u q] at f; cases f
    rw [upd_ne this]; exact g.ff b u q
  hh := g.hh
  nw := fun b u q => by
    by_cases e : b = p
    · subst e; exact .inr n0
    · rw [upd_ne e] at q; exact g.nw b u q
theorem Grow.write {F0 H0 F H : Hp} (g : Grow F0 H0 F H) {p : Addr} {o o' : HO} (n0 : H0 p = none) (f : F p = none) (h : H p = some o) (nt : ∀ xs, o' ≠ .tup xs) : Grow F0 H0 F (upd H p o') where
  cfg := ⟨fun b u q => by
      have : b ≠ p := fun e => by subst e; rw [q] at f; cases f
      rw [upd_ne this]; exact g.cfg.sub b u q, fun b xs q => by
      by_cases e : b = p
      · subst e; rw [upd_same] at q; exact absurd (Option.some.inj q) (nt xs)
      · rw [upd_ne e] at q; exact g.cfg.tup b xs q, g.cfg.nt⟩
  ff := g.ff
  hh := ⟨fun b u q nt => by
    have : b ≠ p := fun e => by subst e; rw [q] at n0; cases n0
    rw [upd_ne this]; exact g.hh.st b u q nt, fun b ps q => by
    have : b ≠ p := fun e => by subst e; rw [q] at n0; cases n0
    rw [upd_ne this]; exact g.hh.tb b ps q⟩
  nw := g.nw
def KD {κ : Type} (K : PySem.W.Frag) (F : Hp) : List (κ × V) → List (κ × PyData) → Prop := Paired fun (p : κ × V) (q : κ × PyData) => p.1 = q.1 ∧ Dq K F p.2 q.2
theorem KD.mono {κ : Type} {K : PySem.W.Frag} {F F' : Hp} (e : Same F F') {a : List (κ × V)} {b : List (κ × PyData)} (h : KD K F a b) : KD K F' a b :=
  Paired.mapP h fun _ _ z => ⟨z.1, z.2.mono e⟩
def hashT (ks : List Int) : Int := reduceHash (Builtin.Tuple.tupleHashOf (ks.map hashInt))
abbrev TX := Nat × List (List Int × Addr × Value)
def DTOk (d : Addr) (t : TX) (h : Heap) : Prop := ∃ o es, h.get? d = some o ∧ o.ExactDict ∧ o.data = .dict es t.1 ∧ es.toList = t.2.map (fun x => (⟨hashT x.1, .ref x.2.1, x.2.2⟩ : DictEntry)) ∧ (t.2.map (·.1)).Nodup ∧ t.2.length ≤ sizeLine ∧ (d == sysModules) = false
def DTO (d : Addr) (xs : TX) : HO := .ext (DTOk d xs)
def KTl (K : PySem.W.Frag) (F : Hp) : List (List Int × Addr × Value) → List (List Int × PyData) → Prop := Paired fun p q => p.1 = q.1 ∧ SqN K F p.2.1 (p.1.map V.int) ∧ ∃ v, RelV v p.2.2 ∧ Dq K F v q.2
def KTq (K : PySem.W.Frag) (F : Hp) (t : TX) (kvs : List (List Int × PyData)) : Prop := KTl K F t.2 kvs
theorem KTl.mono {K : PySem.W.Frag} {F F' : Hp} (e : Same F F') {a : List (List Int × Addr × Value)} {b : List (List Int × PyData)} (h : KTl K F a b) : KTl K F' a b :=
  Paired.mapP h fun _ _ z => ⟨z.1, same_seqN e z.2.1, z.2.2.choose, z.2.2.choose_spec.1, z.2.2.choose_spec.2.mono e⟩
theorem KTq.mono {K : PySem.W.Frag} {F F' : Hp} (e : Same F F') {a : TX} {b : List (List Int × PyData)} (h : KTq K F a b) : KTq K F' a b := KTl.mono e h
instance {d : Addr} {xs : TX} : NT (DTO d xs) := ⟨fun ps z => by
  have z' : HO.ext _ = HO.tbl ps := z
  cases z'⟩
def FVok (K : PySem.W.Frag) (H0 F H : Hp) (v : V) : FV → Prop
  | .d x => Dq K F v x
  | .ol xs => ∃ q ws, v = .ref q ∧ H0 q = none ∧ F q = none ∧ H q = some (.lst ws) ∧ DqA K F ws xs
def FVb (K : PySem.W.Frag) (F H : Hp) (v : V) : FV → Prop
  | .d x => Dq K F v x
  | .ol xs => ∃ q ws, v = .ref q ∧ H q = some (.lst ws) ∧ DqA K F ws xs
def FOk (K : PySem.W.Frag) (H0 F H : Hp) : List (Str × V) → List (Str × FV) → Prop := Paired fun a b => a.1 = b.1 ∧ FVok K H0 F H a.2 b.2
def FBk (K : PySem.W.Frag) (F H : Hp) : List (Str × V) → List (Str × FV) → Prop := Paired fun a b => a.1 = b.1 ∧ FVb K F H a.2 b.2
def lad : List (Str × V) → List (Str × FV) → List Addr
  | (_, .ref q) :: vs, (_, .ol _) :: fs => q :: lad vs fs
  | _ :: vs, _ :: fs => lad vs fs
  | _, _ => []
def fla (H : Hp) (p : Addr) (fs : List (Str × FV)) : List Addr := match H p with
  | some (.ins _ _ vs) => lad vs fs
  | _ => []
def ClsNm (K : PySem.W.Frag) (x : Str) (C : Addr) : Prop := PySem.W.nsIn K mainGlobals x = some (some (.ref C))
theorem fla_eq {H : Hp} {p C dx : Addr} {vs : List (Str × V)} (fs : List (Str × FV)) (h : H p = some (.ins C dx vs)) : fla H p fs = lad vs fs := by unfold fla; rw [h]
theorem FOk.at {K : PySem.W.Frag} {H0 F H : Hp} {q : Addr} : ∀ {vs : List (Str × V)} {fs : List (Str × FV)}, FOk K H0 F H vs fs → q ∈ lad vs fs → H0 q = none ∧ F q = none ∧ ∃ ws, H q = some (.lst ws)
  | _, _, .nil, h => by simp [lad] at h
  | (n, v) :: vs, (m, f) :: fs, .cons h1 h2, h => by
    cases f with
    | d x => cases v <;> exact FOk.at h2 (by simpa [lad] using h)
    | ol xs =>
      obtain ⟨_, a, ws, e, n0, f0, hq, _⟩ := h1
      have e : v = .ref a := e
      subst e
      simp only [lad, List.mem_cons] at h
      rcases h with rfl | h
      · exact ⟨n0, f0, ws, hq⟩
      · exact FOk.at h2 h
theorem FBk.at {K : PySem.W.Frag} {F H : Hp} {q : Addr} : ∀ {vs : List (Str × V)} {fs : List (Str × FV)}, FBk K F H vs fs → q ∈ lad vs fs → ∃ ws, H q = some (.lst ws)
  | _, _, .nil, h => by simp [lad] at h
  | (n, v) :: vs, (m, f) :: fs, .cons h1 h2, h => by
    cases f with
    | d x => cases v <;> exact FBk.at h2 (by simpa [lad] using h)
    | ol xs =>
      obtain ⟨_, a, ws, e, hq, _⟩ := h1
      have e : v = .ref a := e
      subst e
      simp only [lad, List.mem_cons] at h
      rcases h with rfl | h
      · exact ⟨ws, hq⟩
      · exact FBk.at h2 h
theorem FOk.to {K : PySem.W.Frag} {H0 F H H0' F' H' : Hp} (e : Same F F') : ∀ {vs : List (Str × V)} {fs : List (Str × FV)}, FOk K H0 F H vs fs → (∀ q ∈ lad vs fs, ∀ ws, H0 q = none → F q = none → H q = some (.lst ws) → H0' q = none ∧ F' q = none ∧ H' q = some (.lst ws)) → FOk K H0' F' H' vs fs
  | _, _, .nil, _ => .nil
  | (n, v) :: vs, (m, f) :: fs, .cons h1 h2, h => by
    refine .cons ⟨h1.1, ?_⟩ (FOk.to e h2 fun q hq => h q ?_)
    · cases f with
      | d x => exact Dq.mono e x v h1.2
      | ol xs =>
        obtain ⟨_, a, ws, ev, n0, f0, hq, dq⟩ := h1
        have ev : v = .ref a := ev
        subst ev
        obtain ⟨a1, a2, a3⟩ := h a (by simp [lad]) ws n0 f0 hq
        exact ⟨a, ws, rfl, a1, a2, a3, DqA.mono e _ _ dq⟩
    · cases f <;> cases v <;> first | exact hq | exact List.mem_cons_of_mem _ hq
theorem FBk.to {K : PySem.W.Frag} {F H F' H' : Hp} (e : Same F F') : ∀ {vs : List (Str × V)} {fs : List (Str × FV)}, FBk K F H vs fs → (∀ q ∈ lad vs fs, ∀ ws, H q = some (.lst ws) → H' q = some (.lst ws)) → FBk K F' H' vs fs
  | _, _, .nil, _ => .nil
  | (n, v) :: vs, (m, f) :: fs, .cons h1 h2, h => by
    refine .cons ⟨h1.1, ?_⟩ (FBk.to e h2 fun q hq => h q ?_)
    · cases f with
      | d x => exact Dq.mono e x v h1.2
      | ol xs =>
        obtain ⟨_, a, ws, ev, hq, dq⟩ := h1
        have ev : v = .ref a := ev
        subst ev
        exact ⟨a, ws, rfl, h a (by simp [lad]) ws hq, DqA.mono e _ _ dq⟩
    · cases f <;> cases v <;> first | exact hq | exact List.mem_cons_of_mem _ hq
theorem FOk.bor {K : PySem.W.Frag} {H0 F H : Hp} : ∀ {vs : List (Str × V)} {fs : List (Str × FV)}, FOk K H0 F H vs fs → FBk K F H vs fs
  | _, _, .nil => .nil
  | (n, v) :: vs, (m, f) :: fs, .cons h1 h2 => by
    refine .cons ⟨h1.1, ?_⟩ (FOk.bor h2)
    cases f with
    | d x => exact h1.2
    | ol xs => obtain ⟨_, a, ws, ev, _, _, hq, dq⟩ := h1; exact ⟨a, ws, ev, hq, dq⟩
def ObOk (K : PySem.W.Frag) (H0 F H : Hp) (p : Addr) (x : Str) (fs : List (Str × FV)) : Prop := ∃ C dx vs, ClsNm K x C ∧ H p = some (.ins C dx vs) ∧ H0 p = none ∧ F p = none ∧ FOk K H0 F H vs fs ∧ (lad vs fs).Nodup
theorem ObOk.to {K : PySem.W.Frag} {H0 F H H0' F' H' : Hp} {p : Addr} {x : Str} {fs : List (Str × FV)} (h : ObOk K H0 F H p x fs) (e : Same F F') (n0 : H0' p = none) (f0 : F' p = none) (hp : H' p = H p)
    (hq : ∀ q ∈ fla H p fs, ∀ ws, H0 q = none → F q = none → H q = some (.lst ws) → H0' q = none ∧ F' q = none ∧ H' q = some (.lst ws)) : ObOk K H0' F' H' p x fs := by
  obtain ⟨C, dx, vs, c, h1, _, _, fo, nd⟩ := h
  exact ⟨C, dx, vs, c, hp.trans h1, n0, f0, fo.to e (by rw [fla_eq fs h1] at hq; exact hq), nd⟩
theorem ObOk.at {K : PySem.W.Frag} {H0 F H : Hp} {p q : Addr} {x : Str} {fs : List (Str × FV)} (h : ObOk K H0 F H p x fs) (hq : q ∈ fla H p fs) : H0 q = none ∧ F q = none ∧ ∃ ws, H q = some (.lst ws) := by
  obtain ⟨C, dx, vs, c, h1, _, _, fo, nd⟩ := h
  rw [fla_eq fs h1] at hq
  exact fo.at hq
def BoOk (K : PySem.W.Frag) (F H : Hp) (p : Addr) (x : Str) (fs : List (Str × FV)) : Prop := ∃ C dx vs, ClsNm K x C ∧ H p = some (.ins C dx vs) ∧ FBk K F H vs fs
theorem BoOk.to {K : PySem.W.Frag} {F H F' H' : Hp} {p : Addr} {x : Str} {fs : List (Str × FV)} (h : BoOk K F H p x fs) (e : Same F F') (hp : H' p = H p) (hq : ∀ q ∈ fla H p fs, ∀ ws, H q = some (.lst ws) → H' q = some (.lst ws)) : BoOk K F' H' p x fs := by
  obtain ⟨C, dx, vs, c, h1, fo⟩ := h
  exact ⟨C, dx, vs, c, hp.trans h1, fo.to e (by rw [fla_eq fs h1] at hq; exact hq)⟩
theorem BoOk.at {K : PySem.W.Frag} {F H : Hp} {p q : Addr} {x : Str} {fs : List (Str × FV)} (h : BoOk K F H p x fs) (hq : q ∈ fla H p fs) : ∃ ws, H q = some (.lst ws) := by
  obtain ⟨C, dx, vs, c, h1, fo⟩ := h
  rw [fla_eq fs h1] at hq
  exact fo.at hq
theorem ObOk.bo {K : PySem.W.Frag} {H0 F H : Hp} {p : Addr} {x : Str} {fs : List (Str × FV)} (h : ObOk K H0 F H p x fs) : BoOk K F H p x fs := by
  obtain ⟨C, dx, vs, c, h1, _, _, fo, nd⟩ := h
  exact ⟨C, dx, vs, c, h1, fo.bor⟩
theorem ObOk.ins {K : PySem.W.Frag} {H0 F H : Hp} {p : Addr} {x : Str} {fs : List (Str × FV)} (h : ObOk K H0 F H p x fs) : ∃ C dx vs, H p = some (.ins C dx vs) := by
  obtain ⟨C, dx, vs, c, h1, _⟩ := h
  exact ⟨C, dx, vs, h1⟩
theorem BoOk.ins {K : PySem.W.Frag} {F H : Hp} {p : Addr} {x : Str} {fs : List (Str × FV)} (h : BoOk K F H p x fs) : ∃ C dx vs, H p = some (.ins C dx vs) := by
  obtain ⟨C, dx, vs, c, h1, _⟩ := h
  exact ⟨C, dx, vs, h1⟩
def RVok (K : PySem.W.Frag) (H0 F H : Hp) (v : V) : RV → Prop
  | .d x => Dq K F v x
  | .ol xs => ∃ p vs, v = .ref p ∧ H0 p = none ∧ F p = none ∧ H p = some (.lst vs) ∧ DqA K F vs xs
  | .bl xs => ∃ p vs, v = .ref p ∧ H p = some (.lst vs) ∧ DqA K F vs xs
  | .od xs => ∃ p vs, v = .ref p ∧ H0 p = none ∧ F p = none ∧ H p = some (.dK vs) ∧ KD K F vs xs
  | .bd xs => ∃ p vs, v = .ref p ∧ Rd H p (.dK vs) ∧ KD K F vs xs
  | .ot xs => ∃ p vs, v = .ref p ∧ H0 p = none ∧ F p = none ∧ H p = some (DTO p vs) ∧ KTq K F vs xs
  | .bt xs => ∃ p vs, v = .ref p ∧ H p = some (DTO p vs) ∧ KTq K F vs xs
  | .sc ns => ∃ a, v = .ref a ∧ SqL K F a (ns.map V.int)
  | .xo a dd _ fs => v = .ref a ∧ ∃ xs, H dd = some (.xd xs) ∧ KD K F xs fs
  | .t3 x ys kvs => ∃ p w l d vs us, v = .ref p ∧ SqT K F p [w, .ref l, .ref d] ∧ Dq K F w x ∧ (F l = some (.lst vs) ∧ DqA K F vs ys) ∧ (∃ o, F d = some (.frz o (.dK us))) ∧ KD K F us kvs
  | .fd kvs => ∃ p us, v = .ref p ∧ (∃ o, F p = some (.frz o (.dK us))) ∧ KD K F us kvs
  | .ob _ x fs => ∃ p, v = .ref p ∧ ObOk K H0 F H p x fs
  | .bo x fs => ∃ p, v = .ref p ∧ BoOk K F H p x fs
theorem t3_mono {K : PySem.W.Frag} {H0 F H H0' F' H' : Hp} {v : V} {x : PyData} {ys : List PyData} {kvs : List (Key × PyData)} (e : Same F F') (h : RVok K H0 F H v (.t3 x ys kvs)) : RVok K H0' F' H' v (.t3 x ys kvs) := by
  obtain ⟨p, w, l, d, vs, us, ev, s, qw, ⟨hl, ql⟩, ⟨o, hd⟩, qd⟩ := h
  exact ⟨p, w, l, d, vs, us, ev, same_seqT e s, Dq.mono e x w qw, ⟨e _ _ hl, DqA.mono e _ _ ql⟩, ⟨o, e _ _ hd⟩, qd.mono e⟩
theorem fd_mono {K : PySem.W.Frag} {H0 F H H0' F' H' : Hp} {v : V} {kvs : List (Key × PyData)} (e : Same F F') (h : RVok K H0 F H v (.fd kvs)) : RVok K H0' F' H' v (.fd kvs) := by
  obtain ⟨p, us, ev, ⟨o, hd⟩, qd⟩ := h
  exact ⟨p, us, ev, ⟨o, e _ _ hd⟩, qd.mono e⟩
theorem fla_grow {H H' : Hp} (e : SameN H H') {p : Addr} (fs : List (Str × FV)) (h : ∃ C dx vs, H p = some (.ins C dx vs)) : fla H' p fs = fla H p fs := by
  obtain ⟨C, dx, vs, h⟩ := h
  rw [fla_eq fs h, fla_eq fs (e _ _ h)]
theorem ObOk.grow {K : PySem.W.Frag} {H0 F H F' H' : Hp} {p : Addr} {x : Str} {fs : List (Str × FV)} (h : ObOk K H0 F H p x fs) (g : Grow F H F' H') : ObOk K H0 F' H' p x fs := by
  have h' := h
  obtain ⟨C, dx, vs, c, h1, n0, f0, _⟩ := h'
  exact h.to g.ff n0 (g.stillFree f0 h1) ((g.hh _ _ h1).trans h1.symm) fun q _ ws n f e => ⟨n, g.stillFree f e, g.hh _ _ e⟩
theorem BoOk.grow {K : PySem.W.Frag} {F H F' H' : Hp} {p : Addr} {x : Str} {fs : List (Str × FV)} (h : BoOk K F H p x fs) (ff : Same F F') (hh : SameN H H') : BoOk K F' H' p x fs := by
  have h' := h
  obtain ⟨C, dx, vs, c, h1, _⟩ := h'
  exact h.to ff ((hh _ _ h1).trans h1.symm) fun q _ ws e => hh _ _ e
theorem RVok.grow {K : PySem.W.Frag} {H0 F H F' H' : Hp} {v : V} {r : RV} (h : RVok K H0 F H v r) (g : Grow F H F' H') : RVok K H0 F' H' v r := by
  cases r with
  | d x => exact Dq.mono g.ff x v h
  | ol xs => obtain ⟨p, vs, e, n0, f, hp, q⟩ := h; exact ⟨p, vs, e, n0, g.stillFree f hp, g.hh _ _ hp, DqA.mono g.ff _ _ q⟩
  | bl xs => obtain ⟨p, vs, e, hp, q⟩ := h; exact ⟨p, vs, e, g.hh _ _ hp, DqA.mono g.ff _ _ q⟩
  | od xs => obtain ⟨p, vs, e, n0, f, hp, q⟩ := h; exact ⟨p, vs, e, n0, g.stillFree f hp, g.hh _ _ hp, q.mono g.ff⟩
  | bd xs => obtain ⟨p, vs, e, hp, q⟩ := h; exact ⟨p, vs, e, hp.imp (g.hh _ _) (fun ⟨o, z⟩ => ⟨o, g.hh _ _ z⟩), q.mono g.ff⟩
  | ot xs => obtain ⟨p, vs, e, n0, f, hp, q⟩ := h; exact ⟨p, vs, e, n0, g.stillFree f hp, g.hh _ _ hp, q.mono g.ff⟩
  | bt xs => obtain ⟨p, vs, e, hp, q⟩ := h; exact ⟨p, vs, e, g.hh _ _ hp, q.mono g.ff⟩
  | sc ns => obtain ⟨a, e, q⟩ := h; exact ⟨a, e, g.ff.seq q⟩
  | xo a dd c fs => obtain ⟨e, xs, hp, q⟩ := h; exact ⟨e, xs, g.hh _ _ hp, q.mono g.ff⟩
  | t3 x ys kvs => exact t3_mono g.ff h
  | fd kvs => exact fd_mono g.ff h
  | ob me x fs => obtain ⟨p, e, h⟩ := h; exact ⟨p, e, h.grow g⟩
  | bo x fs => obtain ⟨p, e, h⟩ := h; exact ⟨p, e, h.grow g.ff g.hh⟩
theorem RVok.older {K : PySem.W.Frag} {H0 H1 F H : Hp} {v : V} {r : RV} (h : RVok K H1 F H v r) (e : SameN H0 H1) : RVok K H0 F H v r := by
  cases r with
  | ol xs => obtain ⟨p, vs, e1, n0, q⟩ := h; exact ⟨p, vs, e1, none_n e n0, q⟩
  | od xs => obtain ⟨p, vs, e1, n0, q⟩ := h; exact ⟨p, vs, e1, none_n e n0, q⟩
  | ot xs => obtain ⟨p, vs, e1, n0, q⟩ := h; exact ⟨p, vs, e1, none_n e n0, q⟩
  | ob me x fs =>
    obtain ⟨p, ev, h⟩ := h
    have h' := h
    obtain ⟨C, dx, vs, c, h1, n0, f0, _⟩ := h'
    exact ⟨p, ev, h.to (Same.refl _) (none_n e n0) f0 rfl fun q _ ws n f eq => ⟨none_n e n, f, eq⟩⟩
  | _ => exact h
def RV.own : RV → Bool
  | .ol _ | .od _ | .ot _ | .ob _ _ _ => true
  | _ => false
def RV.isB : RV → Bool
  | .bl _ | .bd _ | .bt _ | .bo _ _ => true
  | _ => false
def RV.bor : RV → RV
  | .ol xs => .bl xs
  | .od xs => .bd xs
  | .ot xs => .bt xs
  | .ob _ x fs => .bo x fs
  | r => r
theorem RVok.bor {K : PySem.W.Frag} {H0 F H : Hp} {v : V} {r : RV} (h : RVok K H0 F H v r) : RVok K H0 F H v r.bor := by
  cases r with
  | ol xs => obtain ⟨p, vs, e1, n0, f, q⟩ := h; exact ⟨p, vs, e1, q⟩
  | od xs => obtain ⟨p, vs, e1, n0, f, hp, q⟩ := h; exact ⟨p, vs, e1, .inl hp, q⟩
  | ot xs => obtain ⟨p, vs, e1, n0, f, q⟩ := h; exact ⟨p, vs, e1, q⟩
  | ob me x fs => obtain ⟨p, e1, h⟩ := h; exact ⟨p, e1, h.bo⟩
  | _ => exact h
structure Base where
  F : Hp
  H : Hp
  me : Addr := 0
def TabOk (T : List Addr) (F H : Hp) : Prop := ∀ P ∈ T, F P = none ∧ ∃ ps : Array Value, H P = some (.tbl ps) ∧ TriplesOk ps.toList
theorem TabOk.grow {T : List Addr} {F H F' H' : Hp} (h : TabOk T F H) (g : Grow F H F' H') : TabOk T F' H' := fun P hP => by
  obtain ⟨f0, ps, hp, t⟩ := h P hP
  obtain ⟨ps', hp', t'⟩ := g.hh.tb P ps hp
  exact ⟨g.stillFree f0 hp, ps', hp', t' t⟩
theorem TabOk.to {T : List Addr} {F H F' H' : Hp} (h : TabOk T F H) (hf : ∀ P ps, F P = none → H P = some (.tbl ps) → F' P = none ∧ H' P = H P) : TabOk T F' H' := fun P hP => by
  obtain ⟨f0, ps, hp, t⟩ := h P hP
  obtain ⟨a, b⟩ := hf P ps f0 hp
  exact ⟨a, ps, b.trans hp, t⟩
structure Rg (ca : CA) (B : Base) (F : Hp) (env : VEnv) (σ : L2.St) (H : Hp) : Prop where
  tb : TabOk ca.T F H
  o1 : ∀ (i j : Nat) (p q : Addr) (me : Bool) (x : Str) (fs : List (Str × FV)) (r : RV), env[i]? = some (some (.ob me x fs)) → σ[i]? = some (some (.ref p)) → q ∈ fla H p fs → env[j]? = some (some r) → r.own = true → σ[j]? ≠ some (some (.ref q))
  o2 : ∀ (i j : Nat) (p p' q : Addr) (me me' : Bool) (x x' : Str) (fs fs' : List (Str × FV)), i ≠ j → env[i]? = some (some (.ob me x fs)) → σ[i]? = some (some (.ref p)) → env[j]? = some (some (.ob me' x' fs')) → σ[j]? = some (some (.ref p')) → q ∈ fla H p fs → q ∉ fla H p' fs'
  o3 : ∀ (i : Nat) (p q : Addr) (x : Str) (fs : List (Str × FV)), env[i]? = some (some (.bo x fs)) → σ[i]? = some (some (.ref p)) → q ∈ fla H p fs → ∃ o, B.H q = some o
  me : ∀ (i : Nat) (x : Str) (fs : List (Str × FV)), env[i]? = some (some (.ob true x fs)) → σ[i]? = some (some (.ref B.me))
structure StOk (K : PySem.W.Frag) (ca : CA) (B : Base) (F : Hp) (env : VEnv) (σ : L2.St) (H : Hp) : Prop where
  gr : Grow B.F B.H F H
  len : env.length = σ.length
  sl : ∀ (i : Nat) (r : RV), env[i]? = some (some r) → ∃ v, σ[i]? = some (some v) ∧ RVok K B.H F H v r
  bo : ∀ (i : Nat) (r : RV) (p : Addr), env[i]? = some (some r) → r.isB = true → σ[i]? = some (some (.ref p)) → ∃ o, B.H p = some o
  dis : ∀ (i j : Nat) (r r' : RV) (p : Addr), i ≠ j → env[i]? = some (some r) → env[j]? = some (some r') → r.own = true → r'.own = true → σ[i]? = some (some (.ref p)) → σ[j]? ≠ some (some (.ref p))
  rg : Rg ca B F env σ H
theorem StOk.obAt {K : PySem.W.Frag} {B : Base} {F H : Hp} {env : VEnv} {σ : L2.St} (s : StOk K ca B F env σ H) {i : Nat} {p : Addr} {me : Bool} {x : Str} {fs : List (Str × FV)} (e : env[i]? = some (some (.ob me x fs))) (z : σ[i]? = some (some (.ref p))) : ObOk K B.H F H p x fs := by
  obtain ⟨v, e1, p', ev, h⟩ := s.sl i _ e
  rw [z] at e1
  subst ev
  cases e1
  exact h
theorem StOk.boAt {K : PySem.W.Frag} {B : Base} {F H : Hp} {env : VEnv} {σ : L2.St} (s : StOk K ca B F env σ H) {i : Nat} {p : Addr} {x : Str} {fs : List (Str × FV)} (e : env[i]? = some (some (.bo x fs))) (z : σ[i]? = some (some (.ref p))) : BoOk K F H p x fs := by
  obtain ⟨v, e1, p', ev, h⟩ := s.sl i _ e
  rw [z] at e1
  subst ev
  cases e1
  exact h
theorem StOk.rgTo {K : PySem.W.Frag} {B : Base} {F H F' H' : Hp} {env : VEnv} {σ : L2.St} (s : StOk K ca B F env σ H) (tb : TabOk ca.T F' H') (hp : ∀ (i : Nat) (p C dx : Addr) (vs : List (Str × V)) (r : RV), env[i]? = some (some r) → σ[i]? = some (some (.ref p)) → (r.own = true ∨ r.isB = true) → H p = some (.ins C dx vs) → H' p = H p) : Rg ca B F' env σ H' := by
  have eo : ∀ {i : Nat} {p : Addr} {me : Bool} {x : Str} {fs : List (Str × FV)}, env[i]? = some (some (.ob me x fs)) → σ[i]? = some (some (.ref p)) → fla H' p fs = fla H p fs := fun e z => by
    obtain ⟨C, dx, vs, hi⟩ := (s.obAt e z).ins
    unfold fla
    rw [hp _ _ _ _ _ _ e z (.inl rfl) hi]
  have eb : ∀ {i : Nat} {p : Addr} {x : Str} {fs : List (Str × FV)}, env[i]? = some (some (.bo x fs)) → σ[i]? = some (some (.ref p)) → fla H' p fs = fla H p fs := fun e z => by
    obtain ⟨C, dx, vs, hi⟩ := (s.boAt e z).ins
    unfold fla
    rw [hp _ _ _ _ _ _ e z (.inr rfl) hi]
  exact ⟨tb, fun i j p q me x fs r e z hq => s.rg.o1 i j p q me x fs r e z (by rw [← eo e z]; exact hq),
    fun i j p p' q me me' x x' fs fs' ij e z e' z' hq hq' => s.rg.o2 i j p p' q me me' x x' fs fs' ij e z e' z' (by rw [← eo e z]; exact hq) (by rw [← eo e' z']; exact hq'),
    fun i p q x fs e z hq => s.rg.o3 i p q x fs e z (by rw [← eb e z]; exact hq), s.rg.me⟩
theorem StOk.rgGrow {K : PySem.W.Frag} {B : Base} {F H F' H' : Hp} {env : VEnv} {σ : L2.St} (s : StOk K ca B F env σ H) (g : Grow F H F' H') : Rg ca B F' env σ H' :=
  s.rgTo (s.rg.tb.grow g) fun _ _ _ _ _ _ _ _ _ h => (g.hh _ _ h).trans h.symm
theorem StOk.grow {K : PySem.W.Frag} {B : Base} {F H F' H' : Hp} {env : VEnv} {σ : L2.St} (s : StOk K ca B F env σ H) (g : Grow F H F' H') : StOk K ca B F' env σ H' :=
  ⟨s.gr.trans g, s.len, fun i r e => by
    obtain ⟨v, e1, h⟩ := s.sl i r e
    exact ⟨v, e1, h.grow g⟩, s.bo, s.dis, s.rgGrow g⟩
theorem StOk.cfg {K : PySem.W.Frag} {B : Base} {F H : Hp} {env : VEnv} {σ : L2.St} (s : StOk K ca B F env σ H) : Cfg F H := s.gr.cfg
section
variable (K : PySem.W.Frag) (ca : CA)
def ExOk (F H : Hp) (cls : Value) (dx : Option Addr) (c : Nat) (fs : List (Str × PyData)) : Prop :=
  cls = .ref (ca c) ∧ ∃ dd xs, dx = some dd ∧ H dd = some (.xd xs) ∧ KD K F xs fs
def PostX (W : WX) (σ : L2.St) (F H : Hp) (c : Nat) (fs : List (Str × PyData)) : Prop :=
  ∀ F' H' cls dx, Grow F H F' H' → ExOk K ca F' H' cls dx c fs → W cls dx σ H'
def PostE (W : WX) (σ : L2.St) (F H : Hp) (Q : VK) : Rs RV → Prop
  | .ok r => ∀ F' H' v, Grow F H F' H' → RVok K H F' H' v r → Q v H'
  | .ex c fs => PostX K ca W σ F H c fs
  | .no => False
def PostB (W : WX) (σ : L2.St) (F H : Hp) (Q : Bool → Hp → Prop) : Rs Bool → Prop
  | .ok b => ∀ F' H', Grow F H F' H' → Q b H'
  | .ex c fs => PostX K ca W σ F H c fs
  | .no => False
def PostA (W : WX) (σ : L2.St) (F H : Hp) (Q : List V → Hp → Prop) : Rs (List RV) → Prop
  | .ok rs => ∀ F' H' vs, Grow F H F' H' → Paired (fun v r => RVok K H F' H' v r) vs rs → Q vs H'
  | .ex c fs => PostX K ca W σ F H c fs
  | .no => False
def SndE (W : WX) (t : TE) (f : VEnv → Rs RV) : Prop := ∀ B F env σ H Q, StOk K ca B F env σ H → PostE K ca W σ F H Q (f env) → t σ H Q
def SndT (W : WX) (t : TT) (f : VEnv → Rs Bool) : Prop := ∀ B F env σ H Q, StOk K ca B F env σ H → PostB K ca W σ F H Q (f env) → t σ H Q
def SndA (W : WX) (t : TA) (f : VEnv → Rs (List RV)) : Prop := ∀ B F env σ H Q, StOk K ca B F env σ H → PostA K ca W σ F H Q (f env) → t σ H Q
end
section
variable {K : PySem.W.Frag} {ca : CA} {W : WX} {B : Base} {F H F1 H1 : Hp} {env : VEnv} {σ : L2.St}
theorem PostX.mono {c : Nat} {fs : List (Str × PyData)} (g : Grow F H F1 H1) (h : PostX K ca W σ F H c fs) : PostX K ca W σ F1 H1 c fs :=
  fun F' H' cls dx g' e => h F' H' cls dx (g.trans g') e
theorem PostE.mono {Q : VK} {m : Rs RV} (g : Grow F H F1 H1) (h : PostE K ca W σ F H Q m) : PostE K ca W σ F1 H1 Q m := by
  cases m with
  | ok r => exact fun F' H' v g' e => h F' H' v (g.trans g') (e.older g.hh)
  | ex c fs => exact PostX.mono g h
  | no => exact h
theorem PostB.mono {Q : Bool → Hp → Prop} {m : Rs Bool} (g : Grow F H F1 H1) (h : PostB K ca W σ F H Q m) : PostB K ca W σ F1 H1 Q m := by
  cases m with
  | ok r => exact fun F' H' g' => h F' H' (g.trans g')
  | ex c fs => exact PostX.mono g h
  | no => exact h
theorem paired_older {K : PySem.W.Frag} {H0 H1 F H : Hp} (e : SameN H0 H1) {vs : List V} {rs : List RV} (h : Paired (fun v r => RVok K H1 F H v r) vs rs) : Paired (fun v r => RVok K H0 F H v r) vs rs :=
  Paired.mapP h fun _ _ z => z.older e
theorem PostA.mono {Q : List V → Hp → Prop} {m : Rs (List RV)} (g : Grow F H F1 H1) (h : PostA K ca W σ F H Q m) : PostA K ca W σ F1 H1 Q m := by
  cases m with
  | ok r => exact fun F' H' v g' e => h F' H' v (g.trans g') (paired_older g.hh e)
  | ex c fs => exact PostX.mono g h
  | no => exact h
theorem seqE {t : TE} {f : VEnv → Rs RV} {Q : VK} {α : Type} {k : RV → Rs α} (P : Rs α → Prop) (s : SndE K ca W t f) (st : StOk K ca B F env σ H)
    (post : P ((f env).bind k)) (hx : ∀ c fs, P (.ex c fs) → PostX K ca W σ F H c fs) (hn : ¬ P .no)
    (h : ∀ r F1 H1 v, P (k r) → Grow F H F1 H1 → RVok K H F1 H1 v r → Q v H1) : t σ H Q := by
  refine s B F env σ H Q st ?_
  cases e : f env with
  | ok r => rw [e] at post; exact fun F' H' v g q => h r F' H' v post g q
  | ex c fs => rw [e] at post; exact hx c fs post
  | no => rw [e] at post; exact hn post
theorem seqT {t : TT} {f : VEnv → Rs Bool} {Q : Bool → Hp → Prop} {α : Type} {k : Bool → Rs α} (P : Rs α → Prop) (s : SndT K ca W t f) (st : StOk K ca B F env σ H)
    (post : P ((f env).bind k)) (hx : ∀ c fs, P (.ex c fs) → PostX K ca W σ F H c fs) (hn : ¬ P .no)
    (h : ∀ r F1 H1, P (k r) → Grow F H F1 H1 → Q r H1) : t σ H Q := by
  refine s B F env σ H Q st ?_
  cases e : f env with
  | ok r => rw [e] at post; exact fun F' H' g => h r F' H' post g
  | ex c fs => rw [e] at post; exact hx c fs post
  | no => rw [e] at post; exact hn post
theorem seqA {t : TA} {f : VEnv → Rs (List RV)} {Q : List V → Hp → Prop} {α : Type} {k : List RV → Rs α} (P : Rs α → Prop) (s : SndA K ca W t f) (st : StOk K ca B F env σ H)
    (post : P ((f env).bind k)) (hx : ∀ c fs, P (.ex c fs) → PostX K ca W σ F H c fs) (hn : ¬ P .no)
    (h : ∀ r F1 H1 vs, P (k r) → Grow F H F1 H1 → Paired (fun v r => RVok K H F1 H1 v r) vs r → Q vs H1) : t σ H Q := by
  refine s B F env σ H Q st ?_
  cases e : f env with
  | ok r => rw [e] at post; exact fun F' H' v g q => h r F' H' v post g q
  | ex c fs => rw [e] at post; exact hx c fs post
  | no => rw [e] at post; exact hn post
end
structure VE (ca : CA) (W : WX) (X : Cx) (e : Expr) (f : VEnv → Rs RV) : Prop where
  ex : ∃ t, PE X e t ∧ SndE X.K ca W t f
structure VT (ca : CA) (W : WX) (X : Cx) (e : Expr) (f : VEnv → Rs Bool) : Prop where
  ex : ∃ t, PT X e t ∧ SndT X.K ca W t f
structure VW (ca : CA) (W : WX) (X : Cx) (e : Expr) (f : VEnv → Rs Bool) : Prop where
  ex : ∃ t, PW X e t ∧ SndT X.K ca W t f
structure VA (ca : CA) (W : WX) (X : Cx) (es : List Expr) (f : VEnv → Rs (List RV)) : Prop where
  ex : ∃ t, PA X es t ∧ SndA X.K ca W t f
section
variable {ca : CA} {W : WX} {X : Cx} {a b e : Expr} {es : List Expr} {fa fb : VEnv → Rs RV} {pos : Pos}
def cC (x : PyData) : VEnv → Rs RV := fun _ => .ok (.d x)
theorem ve_int {i j pos} : VE ca W X (.Constant (.int i) j pos) (cC (.int i)) := ⟨_, pe_int, fun _ _ _ _ _ _ st p => p _ _ _ (Grow.refl st.cfg) (.int i)⟩
theorem ve_bl {b j pos} : VE ca W X (.Constant (.bool b) j pos) (cC (.bool b)) := ⟨_, pe_bl, fun _ _ _ _ _ _ st p => p _ _ _ (Grow.refl st.cfg) (.bl b)⟩
theorem ve_str {x j pos} : VE ca W X (.Constant (.str x) j pos) (cC (.str x)) := ⟨_, pe_str, fun _ _ _ _ _ _ st p => p _ _ _ (Grow.refl st.cfg) (.str x)⟩
def cV (i : Nat) : VEnv → Rs RV := fun env => match env[i]? with
  | some (some r) => .ok r.bor
  | _ => .no
theorem snd_var {K : PySem.W.Frag} {i : Nat} : SndE K ca W (tVar i) (cV i) := by
  intro B F env σ H Q st p
  unfold cV at p
  split at p
  · rename_i r e
    obtain ⟨v, e1, h⟩ := st.sl i r e
    refine ⟨v, e1, p F H v (Grow.refl st.cfg) ?_⟩
    cases r with
    | ol xs => exact h.bor
    | od xs => exact h.bor
    | ot xs => exact h.bor
    | ob me x fs => exact h.bor
    | _ => exact h
  · exact p.elim
theorem vv (i : Nat) {x : Str} {pos : Pos} (hN : X.N[i]? = some x := by rfl) (hv : Vis X.env.scope x := by first | exact Or.inl rfl | exact Or.inr (Or.inl rfl) | exact Or.inr (Or.inr rfl)) (hd : (x == ("__debug__" : Str)) = false := by decide)
    (hcd : (x == ("__classdict__" : Str)) = false := by decide) : VE ca W X (.Name x pos) (cV i) := ⟨_, pe_var hN hv hd hcd, snd_var⟩
theorem ve_gint {x : Str} {i : Int} {t : Tok} {pos : Pos} (hg : Gl X x) (hm : X.mg x = some (.int i t)) (hd : (x == ("__debug__" : Str)) = false := by decide) : VE ca W X (.Name x pos) (cC (.int i)) :=
  ⟨_, pe_glob hg hm (v := .int i) ⟨t, rfl⟩ hd, fun _ _ _ _ _ _ st p => p _ _ _ (Grow.refl st.cfg) (.int i)⟩
def Op2S (K : PySem.W.Frag) (ca : CA) (r : R2) (g : RV → RV → Rs RV) : Prop := ∀ (W : WX) σ F0 H0 F H v1 v2 a b Q, Grow F0 H0 F H → RVok K H0 F H v1 a → RVok K H0 F H v2 b → PostE K ca W σ F0 H0 Q (g a b) → r v1 v2 H Q
def Op1S (K : PySem.W.Frag) (ca : CA) (r : V → Hp → VK → Prop) (g : RV → Rs RV) : Prop := ∀ (W : WX) σ F0 H0 F H v a Q, Grow F0 H0 F H → RVok K H0 F H v a → PostE K ca W σ F0 H0 Q (g a) → r v H Q
def CaS (K : PySem.W.Frag) (ca : CA) (r : List V → Hp → VK → Prop) (g : List RV → Rs RV) : Prop := ∀ (W : WX) σ F0 H0 F H vs as Q, Grow F0 H0 F H → Paired (fun v a => RVok K H0 F H v a) vs as → PostE K ca W σ F0 H0 Q (g as) → r vs H Q
def c2 (g : RV → RV → Rs RV) (fa fb : VEnv → Rs RV) : VEnv → Rs RV := fun env => (fa env).bind fun x => (fb env).bind fun y => g x y
def c1 (g : RV → Rs RV) (fa : VEnv → Rs RV) : VEnv → Rs RV := fun env => (fa env).bind g
theorem snd_op2 {K : PySem.W.Frag} {r : R2} {g : RV → RV → Rs RV} {ta tb : TE} (hr : Op2S K ca r g) (sa : SndE K ca W ta fa) (sb : SndE K ca W tb fb) : SndE K ca W (tOp r ta tb) (c2 g fa fb) := by
  intro B F env σ H Q st p
  show ta σ H fun x H1 => tb σ H1 fun y H2 => r x y H2 Q
  refine seqE (PostE K ca W σ F H Q) sa st p (fun _ _ h => h) (fun h => h) fun x F1 H1 v1 p1 g1 q1 => ?_
  refine seqE (PostE K ca W σ F H Q) sb (st.grow g1) p1 (fun _ _ h => PostX.mono g1 h) (fun h => h) fun y F2 H2 v2 p2 g2 q2 => ?_
  exact hr W σ F H F2 H2 v1 v2 x y Q (g1.trans g2) (q1.grow g2) (q2.older g1.hh) p2
theorem snd_op1 {K : PySem.W.Frag} {r : V → Hp → VK → Prop} {g : RV → Rs RV} {ta : TE} (hr : Op1S K ca r g) (sa : SndE K ca W ta fa) : SndE K ca W (tUn r ta) (c1 g fa) := by
  intro B F env σ H Q st p
  show ta σ H fun x H1 => r x H1 Q
  refine seqE (PostE K ca W σ F H Q) sa st p (fun _ _ h => h) (fun h => h) fun x F1 H1 v1 p1 g1 q1 => ?_
  exact hr W σ F H F1 H1 v1 x Q g1 q1 p1
theorem ve_op {op : Operator} {r : R2} {g : RV → RV → Rs RV} (ho : OpR X (binaryOp op) r) (hr : Op2S X.K ca r g) (ha : VE ca W X a fa) (hb : VE ca W X b fb) : VE ca W X (.BinOp a op b pos) (c2 g fa fb) := by
  obtain ⟨ta, pa, sa⟩ := ha
  obtain ⟨tb, pb, sb⟩ := hb
  exact ⟨_, pe_op ho pa pb, snd_op2 hr sa sb⟩
theorem ve_un {op : UnaryOp} {r : V → Hp → VK → Prop} {g : RV → Rs RV} (ho : UnR X (unaryOp op) r) (hr : Op1S X.K ca r g) (ha : VE ca W X a fa) : VE ca W X (.UnaryOp op a pos) (c1 g fa) := by
  obtain ⟨ta, pa, sa⟩ := ha
  exact ⟨_, pe_un ho pa, snd_op1 hr sa⟩
theorem ve_ix {r : R2} {g : RV → RV → Rs RV} (ho : IxR X r) (hr : Op2S X.K ca r g) (ha : VE ca W X a fa) (hb : VE ca W X b fb) (hs : PlainIx b) : VE ca W X (.Subscript a b pos) (c2 g fa fb) := by
  obtain ⟨ta, pa, sa⟩ := ha
  obtain ⟨tb, pb, sb⟩ := hb
  exact ⟨_, pe_ix ho pa pb hs, snd_op2 hr sa sb⟩
end
end VL
namespace VL
open PySem PySem.Spec PyProof.Rows L2
def RV.toD : RV → Option PyData
  | .d x => some x
  | .ol xs => some (.list xs)
  | _ => none
def allD : List RV → Option (List PyData)
  | [] => some []
  | r :: rs => r.toD.bind fun d => (allD rs).bind fun ds => some (d :: ds)
def Fz (K : PySem.W.Frag) (H0 F H : Hp) (v : V) (d : PyData) : Prop := Dq K F v d ∨ ∃ p ws xs, v = .ref p ∧ d = .list xs ∧ H0 p = none ∧ H p = some (.lst ws) ∧ DqA K F ws xs
theorem Fz.of {K : PySem.W.Frag} {H0 F H : Hp} {v : V} {r : RV} {d : PyData} (h : RVok K H0 F H v r) (e : r.toD = some d) : Fz K H0 F H v d := by
  cases r with
  | d x => cases e; exact .inl h
  | ol xs => cases e; obtain ⟨p, vs, e1, n0, f, hp, q⟩ := h; exact .inr ⟨p, vs, xs, e1, rfl, n0, hp, q⟩
  | _ => cases e
theorem Fz.ofs {K : PySem.W.Frag} {H0 F H : Hp} : ∀ {rs : List RV} {vs : List V} {ds : List PyData}, Paired (fun v r => RVok K H0 F H v r) vs rs → allD rs = some ds → Paired (fun v d => Fz K H0 F H v d) vs ds
  | [], _, ds, h, e => by cases h; simp [allD] at e; subst e; exact .nil
  | r :: rs, _, ds, h, e => by
    cases h with
    | cons h1 h2 =>
      unfold allD at e
      cases e1 : r.toD with
      | none => rw [e1] at e; simp at e
      | some d =>
        cases e2 : allD rs with
        | none => rw [e1, e2] at e; simp at e
        | some es => rw [e1, e2] at e; simp at e; subst e; exact .cons (Fz.of h1 e1) (Fz.ofs h2 e2)
theorem Fz.mono {K : PySem.W.Frag} {H0 F F' H : Hp} (e : Same F F') {v : V} {d : PyData} (h : Fz K H0 F H v d) : Fz K H0 F' H v d := by
  rcases h with h | ⟨p, ws, xs, e1, e2, n0, hp, q⟩
  · exact .inl (h.mono e)
  · exact .inr ⟨p, ws, xs, e1, e2, n0, hp, DqA.mono e _ _ q⟩
theorem frz {K : PySem.W.Frag} {F0 H0 F H : Hp} (g : Grow F0 H0 F H) {v : V} {d : PyData} (h : Fz K H0 F H v d) : ∃ F', Grow F0 H0 F' H ∧ Same F F' ∧ Dq K F' v d := by
  rcases h with h | ⟨p, ws, xs, rfl, rfl, n0, hp, q⟩
  · exact ⟨F, g, Same.refl _, h⟩
  · cases e : F p with
    | none =>
      have s : Same F (upd F p (.lst ws)) := fun b u k => by rw [upd_ne (ne_of_none k e)]; exact k
      exact ⟨_, g.freeze n0 e hp, s, .lst upd_same (DqA.mono s _ _ q)⟩
    | some o =>
      have := g.cfg.sub _ _ e
      rw [hp] at this
      cases this
      exact ⟨F, g, Same.refl _, .lst e q⟩
theorem frzs {K : PySem.W.Frag} {F0 H0 H : Hp} : ∀ {F : Hp} {vs : List V} {ds : List PyData}, Grow F0 H0 F H → Paired (fun v d => Fz K H0 F H v d) vs ds → ∃ F', Grow F0 H0 F' H ∧ Same F F' ∧ DqA K F' vs ds
  | F, _, _, g, .nil => ⟨F, g, Same.refl _, .nil⟩
  | F, _, _, g, .cons h1 h2 => by
    obtain ⟨F1, g1, s1, q1⟩ := frz g h1
    obtain ⟨F2, g2, s2, q2⟩ := frzs g1 (Paired.mapP h2 fun _ _ z => z.mono s1)
    exact ⟨F2, g2, s1.trans s2, .cons (q1.mono s2) q2⟩
section
variable {ca : CA} {W : WX} {X : Cx} {a b e : Expr} {es : List Expr} {fa fb : VEnv → Rs RV} {pos : Pos}
def aN : VEnv → Rs (List RV) := fun _ => .ok []
def aC (f : VEnv → Rs RV) (g : VEnv → Rs (List RV)) : VEnv → Rs (List RV) := fun env => (f env).bind fun x => (g env).bind fun xs => .ok (x :: xs)
theorem va_nil : VA ca W X [] aN := ⟨_, pa_nil, fun _ _ _ _ _ _ st p => p _ _ _ (Grow.refl st.cfg) .nil⟩
theorem va_cons {f : VEnv → Rs RV} {g : VEnv → Rs (List RV)} (he : VE ca W X e f) (hr : VA ca W X es g) (hs : starEach (e :: es) X.env = (false, eval e X.env) :: starEach es X.env := by rfl) : VA ca W X (e :: es) (aC f g) := by
  obtain ⟨te, pe, se⟩ := he
  obtain ⟨tr, pr, sr⟩ := hr
  refine ⟨_, pa_cons pe pr hs, fun B F env σ H Q st p => ?_⟩
  show te σ H fun x H1 => tr σ H1 fun xs H2 => Q (x :: xs) H2
  refine seqE (PostA X.K ca W σ F H Q) se st p (fun _ _ h => h) (fun h => h) fun x F1 H1 v1 p1 g1 q1 => ?_
  refine seqA (PostA X.K ca W σ F H Q) sr (st.grow g1) p1 (fun _ _ h => PostX.mono g1 h) (fun h => h) fun xs F2 H2 vs p2 g2 q2 => ?_
  exact p2 F2 H2 (v1 :: vs) (g1.trans g2) (.cons (q1.grow g2) (paired_older g1.hh q2))
def rsO {α : Type} : Option α → Rs α
  | some a => .ok a
  | none => .no
@[simp] theorem rsO_some {α : Type} (a : α) : rsO (some a) = .ok a := rfl
@[simp] theorem rsO_none {α : Type} : rsO (none : Option α) = .no := rfl
def gTupl (rs : List RV) : Rs RV := (rsO (allD rs)).bind fun ds => if ds.length ≤ 1000 then .ok (.d (.tuple ds)) else .no
def gList (rs : List RV) : Rs RV := (rsO (allD rs)).bind fun ds => if ds.length ≤ 1000 then .ok (.ol ds) else .no
def cA (g : List RV → Rs RV) (f : VEnv → Rs (List RV)) : VEnv → Rs RV := fun env => (f env).bind g
theorem small_line {n : Nat} (h : n ≤ 1000) : n ≤ sizeLine := Nat.le_of_lt (small1000 h)
def tTupN (t : TA) : TE := fun σ H Q => t σ H fun xs H1 => xs.length ≤ sizeLine ∧ ∀ (o : Obj) p, o.dict = none → H1 p = none → Q (.ref p) (upd H1 p (.frz o (.tup xs)))
theorem pe_tupN {X : Cx} {es : List Expr} {x1} {pos : Pos} {t : TA} (ha : PA X es t) : PE X (.Tuple es x1 pos) (tTupN t) := by
  constructor
  intro pins s σ H Q I q0
  refine wpAny_Tuple_spliced (thn (ha.run pos pins s σ H _ I q0) fun us s2 ⟨xs, H2, I2, rv, hz, q2⟩ => ⟨by rw [← rv.length]; exact hz, ?_⟩)
  have nn : H2 s2.heap.objs.size = none := I2.hok.fresh (Nat.le_refl _)
  refine ⟨.ref s2.heap.objs.size, upd H2 s2.heap.objs.size (.frz { cls := .type "tuple", data := .seq us.toArray } (.tup xs)), I2.laid (t' := s2.toks) (fun _ _ e => Heap.get?_push_of_some _ e) (Nat.le_refl _) ?_, rfl, q2 _ _ rfl nn⟩
  exact ⟨Heap.get?_push_size _ rfl, hz, us, rv, ⟨_, Heap.get?_push_size _ rfl, rfl, _, rfl⟩⟩
theorem ve_tup {x1} {f : VEnv → Rs (List RV)} (h : VA ca W X es f) : VE ca W X (.Tuple es x1 pos) (cA gTupl f) := by
  obtain ⟨t, pa, sa⟩ := h
  refine ⟨_, pe_tupN pa, fun B F env σ H Q st p => ?_⟩
  show t σ H fun xs H1 => xs.length ≤ sizeLine ∧ ∀ (o : Obj) p, o.dict = none → H1 p = none → Q (.ref p) (upd H1 p (.frz o (.tup xs)))
  refine seqA (PostE X.K ca W σ F H Q) sa st p (fun _ _ h => h) (fun h => h) fun rs F1 H1 vs p1 g1 q1 => ?_
  unfold gTupl at p1
  cases e : allD rs with
  | none => rw [e] at p1; exact p1.elim
  | some ds =>
    rw [e] at p1
    simp only [rsO_some, Rs.bind_ok] at p1
    split at p1
    · rename_i hz
      obtain ⟨F2, g2, s2, q2⟩ := frzs g1 (Fz.ofs q1 e)
      refine ⟨by rw [q2.length]; exact small_line hz, fun o a no n => ?_⟩
      have g3 := Grow.newF g2.cfg (.frz o (.tup vs)) n
      exact p1 _ _ _ (g2.trans g3) (.tup (.frz no upd_same) (DqA.mono g3.ff _ _ q2))
    · exact p1.elim
theorem ve_lst {f : VEnv → Rs (List RV)} (h : VA ca W X es f) : VE ca W X (.List es pos) (cA gList f) := by
  obtain ⟨t, pa, sa⟩ := h
  refine ⟨_, pe_lst pa, fun B F env σ H Q st p => ?_⟩
  show t σ H fun xs H1 => xs.length ≤ sizeLine ∧ ∀ p, H1 p = none → Q (.ref p) (upd H1 p (.lst xs))
  refine seqA (PostE X.K ca W σ F H Q) sa st p (fun _ _ h => h) (fun h => h) fun rs F1 H1 vs p1 g1 q1 => ?_
  unfold gList at p1
  cases e : allD rs with
  | none => rw [e] at p1; exact p1.elim
  | some ds =>
    rw [e] at p1
    simp only [rsO_some, Rs.bind_ok] at p1
    split at p1
    · rename_i hz
      obtain ⟨F2, g2, s2, q2⟩ := frzs g1 (Fz.ofs q1 e)
      refine ⟨by rw [q2.length]; exact small_line hz, fun a n => ?_⟩
      have g3 := Grow.newO g2.cfg (.lst vs) n (fun _ z => by cases z)
      exact p1 _ _ _ (g2.trans g3) ⟨a, vs, rfl, none_n g2.hh n, same_none g2.cfg.sub n, upd_same, q2⟩
    · exact p1.elim
def asB : RV → Rs Bool
  | .d (.bool b) => .ok b
  | _ => .no
def cB (f : VEnv → Rs RV) : VEnv → Rs Bool := fun env => (f env).bind asB
theorem snd_test {K : PySem.W.Frag} {t : TE} {f : VEnv → Rs RV} (s : SndE K ca W t f) : SndT K ca W (tTest t) (cB f) := by
  intro B F env σ H Q st p
  show t σ H fun x H' => ∃ k, x = .bl k ∧ Q k H'
  refine seqE (PostB K ca W σ F H Q) s st p (fun _ _ h => h) (fun h => h) fun x F1 H1 v1 p1 g1 q1 => ?_
  unfold asB at p1
  split at p1
  · rename_i k
    cases q1
    exact ⟨k, rfl, p1 _ _ g1⟩
  · exact p1.elim
theorem vt_cmp {op : CmpOp} {r : R2} {g : RV → RV → Rs RV} (ho : OpR X (compareOp op) r) (hr : Op2S X.K ca r g) (ha : VE ca W X a fa) (hb : VE ca W X b fb) (hm : behindInMarks op b = false) : VT ca W X (.Compare a [op] [b] pos) (cB (c2 g fa fb)) := by
  obtain ⟨ta, pa, sa⟩ := ha
  obtain ⟨tb, pb, sb⟩ := hb
  exact ⟨_, pt_cmpR ho pa pb hm, snd_test (snd_op2 hr sa sb)⟩
def bNot (f : VEnv → Rs Bool) : VEnv → Rs Bool := fun env => (f env).bind fun b => .ok (!b)
def bAnd (f g : VEnv → Rs Bool) : VEnv → Rs Bool := fun env => (f env).bind fun b => if b = true then g env else .ok false
def bOr (f g : VEnv → Rs Bool) : VEnv → Rs Bool := fun env => (f env).bind fun b => if b = true then .ok true else g env
theorem vw_or1 {f : VEnv → Rs Bool} (h : VT ca W X a f) : VW ca W X (.BoolOp .Or [a] pos) f := by
  obtain ⟨t, pe, se⟩ := h
  exact ⟨_, pw_or1 pe, se⟩
theorem vw_or {rest : List Expr} {f g : VEnv → Rs Bool} (h : VT ca W X a f) (h2 : VW ca W X (.BoolOp .Or (b :: rest) pos) g) : VW ca W X (.BoolOp .Or (a :: b :: rest) pos) (bOr f g) := by
  obtain ⟨t, pe, se⟩ := h
  obtain ⟨u, pu, su⟩ := h2
  refine ⟨_, pw_or pe pu, fun B F env σ H Q st p => ?_⟩
  show t σ H fun c H1 => if c = true then Q true H1 else u σ H1 Q
  refine seqT (PostB X.K ca W σ F H Q) se st p (fun _ _ h => h) (fun h => h) fun x F1 H1 p1 g1 => ?_
  cases x with
  | false => rw [if_neg Bool.false_ne_true]; rw [if_neg Bool.false_ne_true] at p1; exact su B F1 env σ H1 Q (st.grow g1) (PostB.mono g1 p1)
  | true => rw [if_pos rfl]; rw [if_pos rfl] at p1; exact p1 _ _ g1
theorem vw {f : VEnv → Rs Bool} (h : VW ca W X e f) : VT ca W X e f := by
  obtain ⟨t, pe, se⟩ := h
  exact ⟨_, pe.pt, se⟩
def vAnd (f g : VEnv → Rs RV) : VEnv → Rs RV := fun env => (cB f env).bind fun b => if b = true then g env else .ok (.d (.bool false))
def vOr (f g : VEnv → Rs RV) : VEnv → Rs RV := fun env => (cB f env).bind fun b => if b = true then .ok (.d (.bool true)) else g env
def vNot (f : VEnv → Rs RV) : VEnv → Rs RV := fun env => (cB f env).bind fun b => .ok (.d (.bool (!b)))
def vIf (t : VEnv → Rs Bool) (f g : VEnv → Rs RV) : VEnv → Rs RV := fun env => (t env).bind fun b => if b = true then f env else g env
theorem snd_call {K : PySem.W.Frag} {r : List V → Hp → VK → Prop} {g : List RV → Rs RV} {t : TA} {f : VEnv → Rs (List RV)} (hr : CaS K ca r g) (sa : SndA K ca W t f) : SndE K ca W (tCB r t) (cA g f) := by
  intro B F env σ H Q st p
  show t σ H fun vs H1 => r vs H1 Q
  refine seqA (PostE K ca W σ F H Q) sa st p (fun _ _ h => h) (fun h => h) fun rs F1 H1 vs p1 g1 q1 => ?_
  exact hr W σ F H F1 H1 vs rs Q g1 q1 p1
theorem ve_callB {id : String} {x : Str} {p : Pos} {r : List V → Hp → VK → Prop} {g : List RV → Rs RV} {f : VEnv → Rs (List RV)} (hc : CallR X (.builtin id) r) (hr : CaS X.K ca r g) (hg : Gl X x) (hm : X.mg x = none) (hv : bootBuiltins x = some (.builtin id)) (ha : VA ca W X (e :: es) f) (hn : x ≠ "__name__" := by decide) (hdb : (x == ("__debug__" : Str)) = false := by decide)
    (he : starEach (e :: es) X.env = (false, eval e X.env) :: starEach es X.env := by rfl) (hpl : (backTo pos (starEach es X.env)).any (·.1) = false := by rfl) : VE ca W X (.Call (.Name x p) (e :: es) [] pos) (cA g f) := by
  obtain ⟨t, pa, sa⟩ := ha
  exact ⟨_, pe_callB hc hg hm hv pa hn hdb he hpl, snd_call hr sa⟩
theorem ve_callTy {T : String} {x : Str} {p : Pos} {r : List V → Hp → VK → Prop} {g : List RV → Rs RV} {f : VEnv → Rs (List RV)} (hc : CallR X (.type T) r) (hr : CaS X.K ca r g) (hg : Gl X x) (hm : X.mg x = none) (hv : bootBuiltins x = some (.type T)) (ha : VA ca W X (e :: es) f) (hn : x ≠ "__name__" := by decide) (hdb : (x == ("__debug__" : Str)) = false := by decide)
    (he : starEach (e :: es) X.env = (false, eval e X.env) :: starEach es X.env := by rfl) (hpl : (backTo pos (starEach es X.env)).any (·.1) = false := by rfl) : VE ca W X (.Call (.Name x p) (e :: es) [] pos) (cA g f) := by
  obtain ⟨t, pa, sa⟩ := ha
  exact ⟨_, pe_callTy hc hg hm hv pa hn hdb he hpl, snd_call hr sa⟩
end
end VL
namespace VL
open PySem PySem.Spec PyProof.Rows L2
inductive Out where
  | nx (env : VEnv) | rt (r : RV) | bk (env : VEnv) | ct (env : VEnv)
  | ex (c : Nat) (fs : List (Str × PyData)) (env : VEnv)
  | rm (o : Option (Str × List (Str × FV))) (d : PyData)
  | rp (x : Str) (fs : List (Str × FV)) (d : PyData)
  | no
def Out.then : Out → (VEnv → Out) → Out
  | .nx env, f => f env
  | o, _ => o
@[simp] theorem Out.then_nx (env f) : (Out.nx env).then f = f env := rfl
@[simp] theorem Out.then_rt (r f) : (Out.rt r).then f = .rt r := rfl
@[simp] theorem Out.then_bk (r f) : (Out.bk r).then f = .bk r := rfl
@[simp] theorem Out.then_ct (r f) : (Out.ct r).then f = .ct r := rfl
@[simp] theorem Out.then_ex (c fs e f) : (Out.ex c fs e).then f = .ex c fs e := rfl
@[simp] theorem Out.then_rm (o d f) : (Out.rm o d).then f = .rm o d := rfl
@[simp] theorem Out.then_rp (x fs d f) : (Out.rp x fs d).then f = .rp x fs d := rfl
@[simp] theorem Out.then_no (f) : Out.no.then f = .no := rfl
def Rs.out {α : Type} (m : Rs α) (env : VEnv) (f : α → Out) : Out := match m with
  | .ok a => f a
  | .ex c fs => .ex c fs env
  | .no => .no
@[simp] theorem Rs.out_ok {α : Type} (a : α) (env f) : (Rs.ok a).out env f = f a := rfl
@[simp] theorem Rs.out_ex {α : Type} (c fs env) (f : α → Out) : (Rs.ex c fs : Rs α).out env f = .ex c fs env := rfl
@[simp] theorem Rs.out_no {α : Type} (env) (f : α → Out) : (Rs.no : Rs α).out env f = .no := rfl
def MeOk (K : PySem.W.Frag) (B : Base) (F H : Hp) : Option (Str × List (Str × FV)) → Prop
  | some (x, fs) => ObOk K B.H F H B.me x fs
  | none => True
def PairOk (K : PySem.W.Frag) (H0 F H : Hp) (v : V) (x : Str) (fs : List (Str × FV)) (d : PyData) : Prop := ∃ p q w, v = .ref p ∧ SqT K H p [.ref q, w] ∧ ObOk K H0 F H q x fs ∧ Dq K F w d
section
variable (K : PySem.W.Frag) (ca : CA) (W : WX) (B : Base) (F0 : Hp)
def PostS (D : Ends) : Out → Prop
  | .nx env => ∀ F σ H, Same F0 F → StOk K ca B F env σ H → D.nx σ H
  | .bk env => ∀ F σ H, Same F0 F → StOk K ca B F env σ H → D.bk σ H
  | .ct env => ∀ F σ H, Same F0 F → StOk K ca B F env σ H → D.ct σ H
  | .rt r => ∀ F H v, Grow B.F B.H F H → RVok K B.H F H v r → D.rt v H
  | .ex c fs env => ∀ F σ H cls dx, Same F0 F → StOk K ca B F env σ H → ExOk K ca F H cls dx c fs → W cls dx σ H
  | .rm o d => ∀ F H v, Grow B.F B.H F H → Dq K F v d → TabOk ca.T F H → MeOk K B F H o → D.rt v H
  | .rp x fs d => ∀ F H v, Grow B.F B.H F H → TabOk ca.T F H → PairOk K B.H F H v x fs d → D.rt v H
  | .no => False
end
theorem PostS.mono {K : PySem.W.Frag} {ca : CA} {W : WX} {B : Base} {F0 F1 : Hp} {D : Ends} {o : Out} (e : Same F0 F1) (h : PostS K ca W B F0 D o) : PostS K ca W B F1 D o := by
  cases o with
  | nx env => exact fun F σ H s st => h F σ H (e.trans s) st
  | bk env => exact fun F σ H s st => h F σ H (e.trans s) st
  | ct env => exact fun F σ H s st => h F σ H (e.trans s) st
  | rt r => exact h
  | rm o d => exact h
  | rp x fs d => exact h
  | ex c fs env => exact fun F σ H cls dx s st => h F σ H cls dx (e.trans s) st
  | no => exact h
def SndS (K : PySem.W.Frag) (ca : CA) (W : WX) (t : TS) (f : VEnv → Out) : Prop := ∀ B F env σ H D, StOk K ca B F env σ H → PostS K ca W B F D (f env) → t D σ H
structure VS (ca : CA) (W : WX) (X : Cx) (st : Stmt) (f : VEnv → Out) : Prop where
  ex : ∃ t, PS X st t ∧ SndS X.K ca W t f
structure VSs (ca : CA) (W : WX) (X : Cx) (st : List Stmt) (f : VEnv → Out) : Prop where
  ex : ∃ t, PSs X st t ∧ SndS X.K ca W t f
section
variable {K : PySem.W.Frag} {ca : CA} {W : WX} {B : Base} {F H : Hp} {env : VEnv} {σ : L2.St}
theorem exOut {c : Nat} {fs : List (Str × PyData)} {D : Ends} (st : StOk K ca B F env σ H) (h : PostS K ca W B F D (.ex c fs env)) : PostX K ca W σ F H c fs :=
  fun F' H' cls dx g e => h F' σ H' cls dx g.ff (st.grow g) e
theorem outE {t : TE} {f : VEnv → Rs RV} {Q : VK} {D : Ends} {k : RV → Out} (s : SndE K ca W t f) (st : StOk K ca B F env σ H)
    (post : PostS K ca W B F D ((f env).out env k)) (h : ∀ r F1 H1 v, PostS K ca W B F1 D (k r) → Grow F H F1 H1 → RVok K H F1 H1 v r → Q v H1) : t σ H Q := by
  refine s B F env σ H Q st ?_
  cases e : f env with
  | ok r => rw [e] at post; exact fun F' H' v g q => h r F' H' v (PostS.mono g.ff post) g q
  | ex c fs => rw [e] at post; exact exOut st post
  | no => rw [e] at post; exact post
theorem outT {t : TT} {f : VEnv → Rs Bool} {Q : Bool → Hp → Prop} {D : Ends} {k : Bool → Out} (s : SndT K ca W t f) (st : StOk K ca B F env σ H)
    (post : PostS K ca W B F D ((f env).out env k)) (h : ∀ r F1 H1, PostS K ca W B F1 D (k r) → Grow F H F1 H1 → Q r H1) : t σ H Q := by
  refine s B F env σ H Q st ?_
  cases e : f env with
  | ok r => rw [e] at post; exact fun F' H' g => h r F' H' (PostS.mono g.ff post) g
  | ex c fs => rw [e] at post; exact exOut st post
  | no => rw [e] at post; exact post
theorem own_some {K : PySem.W.Frag} {H0 F H : Hp} {p : Addr} {r : RV} (o : r.own = true) (h : RVok K H0 F H (.ref p) r) : H0 p = none ∧ F p = none ∧ ∃ u, H p = some u := by
  cases r with
  | ol xs => obtain ⟨a, vs, z, n, f, hp, _⟩ := h; cases z; exact ⟨n, f, _, hp⟩
  | od xs => obtain ⟨a, vs, z, n, f, hp, _⟩ := h; cases z; exact ⟨n, f, _, hp⟩
  | ot xs => obtain ⟨a, vs, z, n, f, hp, _⟩ := h; cases z; exact ⟨n, f, _, hp⟩
  | ob me x fs => obtain ⟨a, z, C, dx, vs, _, hp, n, f, _⟩ := h; cases z; exact ⟨n, f, _, hp⟩
  | _ => cases o
theorem set_at {env : VEnv} {σ : L2.St} (hl : env.length = σ.length) {i j : Nat} (hi : i < env.length) {r r' : RV} {v : V} (e : (env.set i (some r))[j]? = some (some r')) :
    (j = i ∧ r' = r ∧ (σ.set i (some v))[j]? = some (some v)) ∨ (j ≠ i ∧ env[j]? = some (some r') ∧ (σ.set i (some v))[j]? = σ[j]?) := by
  by_cases h : i = j
  · subst h
    rw [List.getElem?_set_self hi] at e
    cases e
    exact .inl ⟨rfl, rfl, List.getElem?_set_self (by omega)⟩
  · rw [List.getElem?_set_ne h] at e
    exact .inr ⟨Ne.symm h, e, List.getElem?_set_ne h⟩
theorem StOk.rgPut0 (st : StOk K ca B F env σ H) {i : Nat} (hi : i < env.length) {v : V} {r : RV} (ho : r.own = false) (hb : r.isB = false) : Rg ca B F (env.set i (some r)) (σ.set i (some v)) H := by
  have at_ := fun {j : Nat} {r' : RV} (e : (env.set i (some r))[j]? = some (some r')) => set_at (v := v) st.len hi e
  refine ⟨st.rg.tb, fun a b p q me x fs r' e z hq e' o' => ?_, fun a b p p' q me me' x x' fs fs' ab e z e' z' hq => ?_, fun a p q x fs e z hq => ?_, fun a x fs e => ?_⟩
  · rcases at_ e with ⟨_, rfl, _⟩ | ⟨_, e1, z1⟩
    · cases ho
    · rcases at_ e' with ⟨_, rfl, _⟩ | ⟨_, e2, z2⟩
      · rw [ho] at o'; cases o'
      · rw [z1] at z; rw [z2]; exact st.rg.o1 a b p q me x fs r' e1 z hq e2 o'
  · rcases at_ e with ⟨_, rfl, _⟩ | ⟨_, e1, z1⟩
    · cases ho
    · rcases at_ e' with ⟨_, rfl, _⟩ | ⟨_, e2, z2⟩
      · cases ho
      · rw [z1] at z; rw [z2] at z'; exact st.rg.o2 a b p p' q me me' x x' fs fs' ab e1 z e2 z' hq
  · rcases at_ e with ⟨_, rfl, _⟩ | ⟨_, e1, z1⟩
    · cases hb
    · rw [z1] at z; exact st.rg.o3 a p q x fs e1 z hq
  · rcases at_ e with ⟨_, rfl, _⟩ | ⟨_, e1, z1⟩
    · cases ho
    · rw [z1]; exact st.rg.me a x fs e1
theorem StOk.put (st : StOk K ca B F env σ H) {i : Nat} (hi : i < env.length) {v : V} {r : RV} (q : RVok K B.H F H v r) (hb : r.isB = false) (rg : Rg ca B F (env.set i (some r)) (σ.set i (some v)) H)
    (hd : r.own = true → ∀ (j : Nat) (r' : RV) (p : Addr), j ≠ i → env[j]? = some (some r') → r'.own = true → v = .ref p → σ[j]? ≠ some (some (.ref p))) : StOk K ca B F (env.set i (some r)) (σ.set i (some v)) H := by
  have hi' : i < σ.length := by rw [← st.len]; exact hi
  refine ⟨st.gr, by simp [st.len], fun j r1 e => ?_, fun j r1 p e o s => ?_, fun j k r1 r2 p jk e1 e2 o1 o2 s1 s2 => ?_, rg⟩
  · by_cases h : i = j
    · subst h
      rw [List.getElem?_set_self hi] at e
      cases e
      exact ⟨v, by rw [List.getElem?_set_self hi'], q⟩
    · rw [List.getElem?_set_ne h] at e
      obtain ⟨w, e1, q1⟩ := st.sl j r1 e
      exact ⟨w, by rw [List.getElem?_set_ne h]; exact e1, q1⟩
  · by_cases h : i = j
    · subst h
      rw [List.getElem?_set_self hi] at e
      cases e
      rw [hb] at o; cases o
    · rw [List.getElem?_set_ne h] at e s
      exact st.bo j r1 p e o s
  · by_cases h1 : i = j
    · subst h1
      rw [List.getElem?_set_self hi] at e1
      rw [List.getElem?_set_self hi'] at s1
      rw [List.getElem?_set_ne jk] at e2 s2
      cases e1
      exact hd o1 k r2 p (Ne.symm jk) e2 o2 (Option.some.inj (Option.some.inj s1)) s2
    · rw [List.getElem?_set_ne h1] at e1 s1
      by_cases h2 : i = k
      · subst h2
        rw [List.getElem?_set_self hi] at e2
        rw [List.getElem?_set_self hi'] at s2
        cases e2
        exact hd o2 j r1 p (Ne.symm h1) e1 o1 (Option.some.inj (Option.some.inj s2)) s1
      · rw [List.getElem?_set_ne h2] at e2 s2
        exact st.dis j k r1 r2 p jk e1 e2 o1 o2 s1 s2
def RV.notMe : RV → Bool
  | .ob true _ _ => false
  | _ => true
theorem StOk.rgNew {F1 H1 : Hp} (st : StOk K ca B F env σ H) (g : Grow F H F1 H1) {i : Nat} (hi : i < env.length) {v : V} {r : RV} (q : RVok K H F1 H1 v r) (hb : r.isB = false) (hm : r.notMe = true) : Rg ca B F1 (env.set i (some r)) (σ.set i (some v)) H1 := by
  have st1 := st.grow g
  have at_ := fun {j : Nat} {r' : RV} (e : (env.set i (some r))[j]? = some (some r')) => set_at (v := v) st.len hi e
  have old1 : ∀ {j : Nat} {r' : RV} {p : Addr}, env[j]? = some (some r') → r'.own = true → σ[j]? = some (some (.ref p)) → ∃ u, H p = some u := fun {j r' p} e o z => by
    obtain ⟨w, e1, q1⟩ := st.sl j _ e
    rw [z] at e1
    cases e1
    exact (own_some o q1).2.2
  have old2 : ∀ {j : Nat} {p q : Addr} {me : Bool} {x : Str} {fs : List (Str × FV)}, env[j]? = some (some (.ob me x fs)) → σ[j]? = some (some (.ref p)) → q ∈ fla H1 p fs → ∃ u, H q = some u := fun {j p q me x fs} e z hq => by
    have h := st.obAt e z
    rw [fla_grow g.hh fs h.ins] at hq
    exact ⟨_, (h.at hq).2.2.choose_spec⟩
  have new1 : ∀ {p : Addr}, r.own = true → v = .ref p → H p = none := fun {p} o e => by
    subst e
    exact (own_some o q).1
  have new2 : ∀ {p q' : Addr} {me : Bool} {x : Str} {fs : List (Str × FV)}, r = .ob me x fs → v = .ref p → q' ∈ fla H1 p fs → H q' = none ∧ ∃ ws, H1 q' = some (.lst ws) := fun {p q' me x fs} er ev hq => by
    subst er; subst ev
    obtain ⟨p', z, h⟩ := q
    cases z
    exact ⟨(h.at hq).1, (h.at hq).2.2⟩
  have no : ∀ {q : Addr}, H q = none → (∃ u, H q = some u) → False := fun h ⟨u, e⟩ => by rw [h] at e; cases e
  refine ⟨st1.rg.tb, fun a b p q' me x fs r' e z hq e' o' => ?_, fun a b p p' q' me me' x x' fs fs' ab e z e' z' hq hq' => ?_, fun a p q' x fs e z hq => ?_, fun a x fs e => ?_⟩
  · rcases at_ e with ⟨ia, er, za⟩ | ⟨_, e1, z1⟩
    · rw [za] at z
      have ev : v = .ref p := Option.some.inj (Option.some.inj z)
      obtain ⟨n1, ws, hl⟩ := new2 er.symm ev hq
      rcases at_ e' with ⟨_, rfl, zb⟩ | ⟨_, e2, z2⟩
      · rw [zb, ev]
        intro w
        have w : p = q' := by injection w with w; injection w with w; injection w
        obtain ⟨p', z', C, dx, vs, _, hp, _⟩ := (er ▸ q : RVok K H F1 H1 v (.ob me x fs))
        rw [ev] at z'
        cases z'
        rw [w, hl] at hp
        cases hp
      · rw [z2]
        intro w
        exact no n1 (old1 e2 o' w)
    · rw [z1] at z
      have hs := old2 e1 z hq
      rcases at_ e' with ⟨_, rfl, zb⟩ | ⟨_, e2, z2⟩
      · rw [zb]
        intro w
        exact no (new1 o' (Option.some.inj (Option.some.inj w))) hs
      · rw [z2]; exact st1.rg.o1 a b p q' me x fs r' e1 z hq e2 o'
  · rcases at_ e with ⟨ia, er, za⟩ | ⟨_, e1, z1⟩
    · rw [za] at z
      have ev : v = .ref p := Option.some.inj (Option.some.inj z)
      obtain ⟨n1, ws, hl⟩ := new2 er.symm ev hq
      rcases at_ e' with ⟨ib, _, _⟩ | ⟨_, e2, z2⟩
      · exact ab (ia.trans ib.symm)
      · rw [z2] at z'
        exact no n1 (old2 e2 z' hq')
    · rw [z1] at z
      rcases at_ e' with ⟨ib, er, zb⟩ | ⟨_, e2, z2⟩
      · rw [zb] at z'
        exact no (new2 er.symm (Option.some.inj (Option.some.inj z')) hq').1 (old2 e1 z hq)
      · rw [z2] at z'
        exact st1.rg.o2 a b p p' q' me me' x x' fs fs' ab e1 z e2 z' hq hq'
  · rcases at_ e with ⟨_, rfl, _⟩ | ⟨_, e1, z1⟩
    · cases hb
    · rw [z1] at z; exact st1.rg.o3 a p q' x fs e1 z hq
  · rcases at_ e with ⟨_, rfl, _⟩ | ⟨_, e1, z1⟩
    · cases hm
    · rw [z1]; exact st1.rg.me a x fs e1
theorem StOk.putE {F1 H1 : Hp} (st : StOk K ca B F env σ H) (g : Grow F H F1 H1) {i : Nat} (hi : i < env.length) {v : V} {r : RV} (q : RVok K H F1 H1 v r) (hb : r.isB = false) (hm : r.notMe = true) : StOk K ca B F1 (env.set i (some r)) (σ.set i (some v)) H1 := by
  refine (st.grow g).put hi (q.older st.gr.hh) hb (st.rgNew g hi q hb hm) fun o j r' p ji e o' ev s => ?_
  obtain ⟨w, e1, q1⟩ := st.sl j r' e
  rw [s] at e1
  cases e1
  obtain ⟨_, _, ob, hp⟩ := own_some o' q1
  subst ev
  rw [(own_some o q).1] at hp
  cases hp
theorem StOk.put0 (st : StOk K ca B F env σ H) {i : Nat} (hi : i < env.length) {v : V} {r : RV} (q : RVok K B.H F H v r) (hb : r.isB = false) (ho : r.own = false) : StOk K ca B F (env.set i (some r)) (σ.set i (some v)) H :=
  st.put hi q hb (st.rgPut0 hi ho hb) fun z => by rw [ho] at z; cases z
theorem drop_at {env : VEnv} {i j : Nat} {r' : RV} (e : (env.set i none)[j]? = some (some r')) : j ≠ i ∧ env[j]? = some (some r') := by
  by_cases h : i = j
  · subst h
    by_cases hi : i < env.length
    · rw [List.getElem?_set_self hi] at e; cases e
    · rw [List.getElem?_eq_none (by simpa using hi)] at e; cases e
  · rw [List.getElem?_set_ne h] at e
    exact ⟨Ne.symm h, e⟩
theorem StOk.drop (st : StOk K ca B F env σ H) (i : Nat) : StOk K ca B F (env.set i none) (σ.set i none) H := by
  have sg : ∀ {j : Nat}, j ≠ i → (σ.set i none)[j]? = σ[j]? := fun h => List.getElem?_set_ne (Ne.symm h)
  refine ⟨st.gr, by simp [st.len], fun j r1 e => ?_, fun j r1 p e o s => ?_, fun j k r1 r2 p jk e1 e2 o1 o2 s1 s2 => ?_, ⟨st.rg.tb, fun a b p q me x fs r' e z hq e' o' => ?_, fun a b p p' q me me' x x' fs fs' ab e z e' z' hq => ?_, fun a p q x fs e z hq => ?_, fun a x fs e => ?_⟩⟩
  · obtain ⟨h, e⟩ := drop_at e
    obtain ⟨w, e1, q1⟩ := st.sl j r1 e
    exact ⟨w, by rw [sg h]; exact e1, q1⟩
  · obtain ⟨h, e⟩ := drop_at e
    rw [sg h] at s
    exact st.bo j r1 p e o s
  · obtain ⟨h1, e1⟩ := drop_at e1
    obtain ⟨h2, e2⟩ := drop_at e2
    rw [sg h1] at s1
    rw [sg h2] at s2
    exact st.dis j k r1 r2 p jk e1 e2 o1 o2 s1 s2
  · obtain ⟨h1, e⟩ := drop_at e
    obtain ⟨h2, e'⟩ := drop_at e'
    rw [sg h1] at z
    rw [sg h2]
    exact st.rg.o1 a b p q me x fs r' e z hq e' o'
  · obtain ⟨h1, e⟩ := drop_at e
    obtain ⟨h2, e'⟩ := drop_at e'
    rw [sg h1] at z
    rw [sg h2] at z'
    exact st.rg.o2 a b p p' q me me' x x' fs fs' ab e z e' z' hq
  · obtain ⟨h1, e⟩ := drop_at e
    rw [sg h1] at z
    exact st.rg.o3 a p q x fs e z hq
  · obtain ⟨h1, e⟩ := drop_at e
    rw [sg h1]
    exact st.rg.me a x fs e
end
def fzE (i : Nat) (env : VEnv) : VEnv := match env[i]? with
  | some (some (.ol xs)) => env.set i (some (.d (.list xs)))
  | _ => env
theorem StOk.fz {K : PySem.W.Frag} {B : Base} {F H : Hp} {env : VEnv} {σ : L2.St} (st : StOk K ca B F env σ H) (i : Nat) : ∃ F', Same F F' ∧ StOk K ca B F' (fzE i env) σ H := by
  unfold fzE
  split
  · rename_i xs e
    obtain ⟨v, e1, p, vs, rfl, n0, f, hp, q⟩ := st.sl i _ e
    have hi : i < env.length := (List.getElem?_eq_some_iff.mp e).1
    have s1 : Same F (upd F p (.lst vs)) := fun b u k => by rw [upd_ne (ne_of_none k f)]; exact k
    have up0 : ∀ {j : Nat} {r : RV}, (env.set i (some (.d (.list xs))))[j]? = some (some r) → (r.own = true ∨ r.isB = true) → j ≠ i ∧ env[j]? = some (some r) := fun {j r} e2 o => by
      by_cases h : i = j
      · subst h; rw [List.getElem?_set_self hi] at e2; cases e2; rcases o with o | o <;> cases o
      · rw [List.getElem?_set_ne h] at e2; exact ⟨Ne.symm h, e2⟩
    refine ⟨upd F p (.lst vs), s1, st.gr.freeze n0 f hp, by simpa using st.len, fun j r e2 => ?_, fun j r a e2 o z => ?_, fun j k r1 r2 a jk q1 q2 o1 o2 z1 z2 => ?_, ⟨st.rg.tb.to fun P ps f0 h0 => ⟨by rw [upd_ne (show P ≠ p from fun w => by rw [w, hp] at h0; cases h0)]; exact f0, rfl⟩,
      fun a b p' q me x fs r' e2 z hq e' o' => st.rg.o1 a b p' q me x fs r' (up0 e2 (.inl rfl)).2 z hq (up0 e' (.inl o')).2 o',
      fun a b p1 p' q me me' x x' fs fs' ab e2 z e' z' hq => st.rg.o2 a b p1 p' q me me' x x' fs fs' ab (up0 e2 (.inl rfl)).2 z (up0 e' (.inl rfl)).2 z' hq,
      fun a p' q x fs e2 z hq => st.rg.o3 a p' q x fs (up0 e2 (.inr rfl)).2 z hq,
      fun a x fs e2 => st.rg.me a x fs (up0 e2 (.inl rfl)).2⟩⟩
    · by_cases h : i = j
      · subst h
        rw [List.getElem?_set_self hi] at e2
        cases e2
        exact ⟨_, e1, .lst upd_same (DqA.mono s1 _ _ q)⟩
      · rw [List.getElem?_set_ne h] at e2
        obtain ⟨w, e3, q3⟩ := st.sl j r e2
        refine ⟨w, e3, ?_⟩
        have ne : ∀ a, r.own = true → w = .ref a → a ≠ p := fun a o z y => by
          subst y; subst z
          exact st.dis i j (.ol xs) r a h e e2 rfl o e1 e3
        cases r with
        | d x => exact Dq.mono s1 x w q3
        | ol ys => obtain ⟨a, ws, z, n, f2, h2, q4⟩ := q3; exact ⟨a, ws, z, n, by rw [upd_ne (ne a rfl z)]; exact f2, h2, DqA.mono s1 _ _ q4⟩
        | od ys => obtain ⟨a, ws, z, n, f2, h2, q4⟩ := q3; exact ⟨a, ws, z, n, by rw [upd_ne (ne a rfl z)]; exact f2, h2, q4.mono s1⟩
        | ot ys => obtain ⟨a, ws, z, n, f2, h2, q4⟩ := q3; exact ⟨a, ws, z, n, by rw [upd_ne (ne a rfl z)]; exact f2, h2, q4.mono s1⟩
        | sc ns => obtain ⟨a, z, q4⟩ := q3; exact ⟨a, z, s1.seq q4⟩
        | bl ys => obtain ⟨a, ws, z, h2, q4⟩ := q3; exact ⟨a, ws, z, h2, DqA.mono s1 _ _ q4⟩
        | bd ys => obtain ⟨a, ws, z, h2, q4⟩ := q3; exact ⟨a, ws, z, h2, q4.mono s1⟩
        | bt ys => obtain ⟨a, ws, z, h2, q4⟩ := q3; exact ⟨a, ws, z, h2, q4.mono s1⟩
        | xo a dd c fs => obtain ⟨z, ws, h2, q4⟩ := q3; exact ⟨z, ws, h2, q4.mono s1⟩
        | t3 x ys kvs => exact t3_mono s1 q3
        | fd kvs => exact fd_mono s1 q3
        | ob me x fs =>
          obtain ⟨a, z, h4⟩ := q3
          subst z
          have h5 := h4
          obtain ⟨C, dx, us, _, hi5, n5, f5, _⟩ := h5
          refine ⟨a, rfl, h4.to s1 n5 (by rw [upd_ne (ne a rfl rfl)]; exact f5) rfl fun q hq ws nq fq lq => ⟨nq, ?_, lq⟩⟩
          rw [upd_ne (show q ≠ p from fun w => st.rg.o1 j i a q me x fs (.ol xs) e2 e3 hq e rfl (w ▸ e1))]
          exact fq
        | bo x fs => obtain ⟨a, z, h4⟩ := q3; exact ⟨a, z, h4.to s1 rfl fun q _ ws lq => lq⟩
    · by_cases h : i = j
      · subst h; rw [List.getElem?_set_self hi] at e2; cases e2; cases o
      · rw [List.getElem?_set_ne h] at e2
        exact st.bo j r a e2 o z
    · by_cases h1 : i = j
      · subst h1; rw [List.getElem?_set_self hi] at q1; cases q1; cases o1
      · by_cases h2 : i = k
        · subst h2; rw [List.getElem?_set_self hi] at q2; cases q2; cases o2
        · rw [List.getElem?_set_ne h1] at q1
          rw [List.getElem?_set_ne h2] at q2
          exact st.dis j k r1 r2 a jk q1 q2 o1 o2 z1 z2
  · exact ⟨F, Same.refl _, st⟩
end VL
namespace VL
open PySem PySem.Spec PyProof.Rows L2
section
variable {ca : CA} {W : WX} {X : Cx} {a b e : Expr} {es : List Expr} {fa fb : VEnv → Rs RV} {pos : Pos} {st : Stmt} {rest : List Stmt} {f g : VEnv → Out}
def sNil : VEnv → Out := fun env => .nx env
def sSeq (f g : VEnv → Out) : VEnv → Out := fun env => (f env).then g
theorem vss_nil : VSs ca W X [] sNil := ⟨_, pss_nil, fun _ _ _ _ _ _ st p => p _ _ _ (Same.refl _) st⟩
theorem vss_cons (h1 : VS ca W X st f) (h2 : VSs ca W X rest g) : VSs ca W X (st :: rest) (sSeq f g) := by
  obtain ⟨t, p1, s1⟩ := h1
  obtain ⟨u, p2, s2⟩ := h2
  refine ⟨_, pss_cons p1 p2, fun B F env σ H D st p => ?_⟩
  show t { D with nx := u D } σ H
  refine s1 B F env σ H _ st ?_
  unfold sSeq at p
  cases e : f env with
  | nx env' => rw [e] at p; exact fun F' σ' H' s st' => s2 B F' env' σ' H' D st' (PostS.mono s p)
  | bk env' => rw [e] at p; exact p
  | ct env' => rw [e] at p; exact p
  | rt r => rw [e] at p; exact p
  | rm o d => rw [e] at p; exact p
  | rp x fs d => rw [e] at p; exact p
  | ex c fs env' => rw [e] at p; exact p
  | no => rw [e] at p; exact p
theorem vss_one (h1 : VS ca W X st f) : VSs ca W X [st] f := by
  obtain ⟨t, p1, s1⟩ := h1
  exact ⟨_, pss_one p1, s1⟩
def sFz (i : Nat) (f : VEnv → Out) : VEnv → Out := fun env => f (fzE i env)
theorem vs_fz (i : Nat) (h : VS ca W X st f) : VS ca W X st (sFz i f) := by
  obtain ⟨t, p1, s1⟩ := h
  refine ⟨t, p1, fun B F env σ H D st p => ?_⟩
  obtain ⟨F', s, st'⟩ := st.fz i
  exact s1 B F' (fzE i env) σ H D st' (PostS.mono s p)
def sBk : VEnv → Out := fun env => .bk env
def sCt : VEnv → Out := fun env => .ct env
def RV.nb : RV → Rs RV
  | .bl _ | .bd _ | .bt _ | .bo _ _ | .ob true _ _ => .no
  | r => .ok r
theorem nb_b {r r' : RV} (e : r.nb = .ok r') : r.isB = false ∧ r.notMe = true := by
  cases r with
  | ob me _ _ => cases me <;> cases e; exact ⟨rfl, rfl⟩
  | _ => first | exact ⟨rfl, rfl⟩ | cases e
def sRet (fe : VEnv → Rs RV) : VEnv → Out := fun env => (fe env).out env fun r => (r.nb).out env .rt
theorem vs_ret (he : VE ca W X e fa) : VS ca W X (.Return (some e) pos) (sRet fa) := by
  obtain ⟨t, pe, se⟩ := he
  refine ⟨_, ps_ret pe, fun B F env σ H D st p => ?_⟩
  refine outE (t := t) (Q := D.rt) se st p fun r F1 H1 v p1 g q => ?_
  cases r with
  | bl _ => exact p1.elim
  | bd _ => exact p1.elim
  | bt _ => exact p1.elim
  | bo _ _ => exact p1.elim
  | ob me _ _ =>
    cases me with
    | true => exact p1.elim
    | false => exact p1 F1 H1 v (st.gr.trans g) (q.older st.gr.hh)
  | _ => exact p1 F1 H1 v (st.gr.trans g) (q.older st.gr.hh)
def sRetV (i : Nat) : VEnv → Out := fun env => match env[i]? with
  | some (some r) => (r.nb).out env .rt
  | _ => .no
theorem vs_retv (i : Nat) {x : Str} {p' : Pos} (hN : X.N[i]? = some x := by rfl) (hv : Vis X.env.scope x := by first | exact Or.inl rfl | exact Or.inr (Or.inl rfl) | exact Or.inr (Or.inr rfl)) (hd : (x == ("__debug__" : Str)) = false := by decide)
    (hcd : (x == ("__classdict__" : Str)) = false := by decide) : VS ca W X (.Return (some (.Name x p')) pos) (sRetV i) := by
  refine ⟨_, ps_ret (pe_var hN hv hd hcd), fun B F env σ H D st p => ?_⟩
  unfold sRetV at p
  split at p
  · rename_i r e
    obtain ⟨v, e1, h⟩ := st.sl i r e
    refine ⟨v, e1, ?_⟩
    cases r with
    | bl _ => exact p.elim
    | bd _ => exact p.elim
    | bt _ => exact p.elim
    | bo _ _ => exact p.elim
    | ob me _ _ =>
      cases me with
      | true => exact p.elim
      | false => exact p F H v st.gr h
    | _ => exact p F H v st.gr h
  · exact p.elim
def sRetN : VEnv → Out := fun _ => .rt (.d .none)
def sDrop (fe : VEnv → Rs RV) : VEnv → Out := fun env => (fe env).out env fun _ => .nx env
def putS (i : Nat) (r : RV) (env : VEnv) : Out := (r.nb).out env fun r => if i < env.length then .nx (env.set i (some r)) else .no
def sSet (i : Nat) (fe : VEnv → Rs RV) : VEnv → Out := fun env => (fe env).out env fun r => putS i r env
theorem snd_put {K : PySem.W.Frag} {B : Base} {F H F1 H1 : Hp} {env : VEnv} {σ : L2.St} {D : Ends} {i : Nat} {r : RV} {v : V} (st : StOk K ca B F env σ H) (g : Grow F H F1 H1) (q : RVok K H F1 H1 v r) (p : PostS K ca W B F1 D (putS i r env)) : D.nx (σ.set i (some v)) H1 := by
  unfold putS at p
  have go : ∀ r' : RV, r.nb = .ok r' → r' = r := fun r' e => by
    cases r with
    | ob me _ _ => cases me <;> cases e; rfl
    | _ => cases e <;> rfl
  cases e : r.nb with
  | ok r' =>
    rw [e] at p
    cases go r' e
    simp only [Rs.out_ok] at p
    split at p
    · rename_i hi
      exact p F1 _ H1 (Same.refl _) (st.putE g hi q (nb_b e).1 (nb_b e).2)
    · exact p.elim
  | ex c fs => exact absurd e (by
      cases r with
      | ob me _ _ => cases me <;> simp [RV.nb]
      | _ => simp [RV.nb])
  | no => rw [e] at p; exact p.elim
theorem vs_set {i : Nat} {x : Str} {pos' : Pos} (hN : X.N.Nodup) (hi : X.N[i]? = some x) (hx : Loc X.env.scope x) (he : VE ca W X e fa) (hs : swapsWith e (some (.Name x pos')) pos.line X.env = pure false := by rfl) (hf : X.fn x = true ∨ X.env.scope.names.lookup x = some .local := by first | exact .inl rfl | exact .inr rfl | assumption) :
    VS ca W X (.Assign [.Name x pos'] e pos) (sSet i fa) := by
  obtain ⟨t, pe, se⟩ := he
  refine ⟨_, ps_set hN hi hx pe hs hf, fun B F env σ H D st p => ?_⟩
  show t σ H fun x H1 => D.nx (σ.set i (some x)) H1
  exact outE se st p fun r F1 H1 v p1 g q => snd_put st g q p1
def sIf (c : VEnv → Rs Bool) (f g : VEnv → Out) : VEnv → Out := fun env => (c env).out env fun b => if b = true then f env else g env
theorem vs_if {c : Expr} {ss tt : List Stmt} {tc : VEnv → Rs Bool} (hc : VT ca W X c tc) (ha : VSs ca W X ss f) (hb : VSs ca W X tt g) : VS ca W X (.If c ss tt pos) (sIf tc f g) := by
  obtain ⟨t, pe, se⟩ := hc
  obtain ⟨ta, pa, sa⟩ := ha
  obtain ⟨tb, pb, sb⟩ := hb
  refine ⟨_, ps_if pe pa pb, fun B F env σ H D st p => ?_⟩
  show t σ H fun b H1 => if b = true then ta D σ H1 else tb D σ H1
  refine outT se st p fun b F1 H1 p1 g => ?_
  cases b with
  | true => rw [if_pos rfl]; rw [if_pos rfl] at p1; exact sa B F1 env σ H1 D (st.grow g) p1
  | false => rw [if_neg Bool.false_ne_true]; rw [if_neg Bool.false_ne_true] at p1; exact sb B F1 env σ H1 D (st.grow g) p1
structure JWalk (J : It) (G : Hp) (vs : List V) : Prop where
  go : ∀ i H, SameN G H → i < vs.length → J.go i H
  yld : ∀ i H x H', SameN G H → J.yld i H x H' → i < vs.length → H' = H ∧ vs[i]? = some x
  stop : ∀ H, SameN G H → J.stop vs.length H
theorem jw_list {K : PySem.W.Frag} {G : Hp} {a : Addr} {vs : List V} (h : SqL K G a vs) : JWalk (Itl K a) G vs where
  go := fun i H s hi => ⟨vs, vs[i], s.seq h, by simp [hi]⟩
  yld := fun i H x H' s y hi => ⟨y.1, y.2 vs (s.seq h)⟩
  stop := fun H s => ⟨vs, s.seq h, Nat.le_refl _⟩
theorem jw_tup {K : PySem.W.Frag} {G : Hp} {a : Addr} {vs : List V} (h : SqT K G a vs) : JWalk (Itt K a) G vs where
  go := fun i H s hi => ⟨vs, vs[i], s.seqT h, by simp [hi]⟩
  yld := fun i H x H' s y hi => ⟨y.1, y.2 vs (s.seqT h)⟩
  stop := fun H s => ⟨vs, s.seqT h, Nat.le_refl _⟩
def rngL (lo : Int) (n : Nat) : List PyData := (List.range n).map fun i : Nat => .int (lo + (i : Int))
theorem jw_rng {G : Hp} (lo : Int) (n : Nat) : JWalk (Itr lo n) G ((List.range n).map fun i : Nat => V.int (lo + (i : Int))) where
  go := fun i H s hi => by
    have hi' : i < n := by simpa using hi
    exact hi'
  yld := fun i H x H' s y hi => by
    have hi' : i < n := by simpa using hi
    refine ⟨y.1, ?_⟩
    rw [y.2, List.getElem?_map, List.getElem?_range hi']
    rfl
  stop := fun H s => by show n ≤ _; simp
def PostI (K : PySem.W.Frag) (ca : CA) (W : WX) (σ : L2.St) (F H : Hp) (R : It → Hp → Prop) : Rs (List PyData) → Prop
  | .ok xs => ∀ J F' H' vs, Grow F H F' H' → DqA K F' vs xs → JWalk J F' vs → R J H'
  | .ex c fs => PostX K ca W σ F H c fs
  | .no => False
def SndI (K : PySem.W.Frag) (ca : CA) (W : WX) (t : TI) (f : VEnv → Rs (List PyData)) : Prop := ∀ B F env σ H R, StOk K ca B F env σ H → PostI K ca W σ F H R (f env) → t σ H R
structure VI (ca : CA) (W : WX) (X : Cx) (tg iter : Expr) (f : VEnv → Rs (List PyData)) : Prop where
  ex : ∃ t, PI X tg iter t ∧ SndI X.K ca W t f
def PostJ (K : PySem.W.Frag) (ca : CA) (W : WX) (σ : L2.St) (F H : Hp) (R : It → Hp → Prop) : Rs (List PyData) → Prop
  | .ok xs => ∀ J F' H' vs, Grow F H F' H' → DqA K F' vs xs → JWalk J H' vs → R J H'
  | .ex c fs => PostX K ca W σ F H c fs
  | .no => False
def SndJ (K : PySem.W.Frag) (ca : CA) (W : WX) (t : TI) (f : VEnv → Rs (List PyData)) : Prop := ∀ B F env σ H R, StOk K ca B F env σ H → PostJ K ca W σ F H R (f env) → t σ H R
structure VJ (ca : CA) (W : WX) (X : Cx) (tg iter : Expr) (f : VEnv → Rs (List PyData)) : Prop where
  ex : ∃ t, PI X tg iter t ∧ SndJ X.K ca W t f
theorem JWalk.up {J : It} {G G' : Hp} {vs : List V} (h : JWalk J G vs) (s : Same G G') : JWalk J G' vs :=
  ⟨fun i H q => h.go i H (s.n.trans q), fun i H x H' q => h.yld i H x H' (s.n.trans q), fun H q => h.stop H (s.n.trans q)⟩
theorem VI.vj {tg iter : Expr} {f : VEnv → Rs (List PyData)} (h : VI ca W X tg iter f) : VJ ca W X tg iter f := by
  obtain ⟨t, p, s⟩ := h
  refine ⟨t, p, fun B F env σ H R st q => s B F env σ H R st ?_⟩
  cases e : f env with
  | ok xs => rw [e] at q; exact fun J F' H' vs g d j => q J F' H' vs g d (j.up g.cfg.sub)
  | ex c fs => rw [e] at q; exact q
  | no => rw [e] at q; exact q
def gL : RV → Rs (List PyData)
  | .d (.list xs) => .ok xs
  | .ol xs => .ok xs
  | .sc ns => .ok (ns.map .int)
  | _ => .no
def gT : RV → Rs (List PyData)
  | .d (.tuple xs) => .ok xs
  | _ => .no
def gLb : RV → Rs (List PyData)
  | .bl xs => .ok xs
  | r => gL r
def iL (fe : VEnv → Rs RV) : VEnv → Rs (List PyData) := fun env => (fe env).bind gL
def iT (fe : VEnv → Rs RV) : VEnv → Rs (List PyData) := fun env => (fe env).bind gT
def iLb (fe : VEnv → Rs RV) : VEnv → Rs (List PyData) := fun env => (fe env).bind gLb
theorem vi_list {tg : Expr} (h : VE ca W X e fa) : VI ca W X tg e (iL fa) := by
  obtain ⟨t, p, s⟩ := h
  refine ⟨_, pi_list p, fun B F env σ H R st q => ?_⟩
  show t σ H fun x H1 => ∃ a, x = .ref a ∧ (∃ xs, SqL X.K H1 a xs) ∧ R (Itl X.K a) H1
  refine seqE (PostI X.K ca W σ F H R) s st q (fun _ _ h => h) (fun h => h) fun r F1 H1 v p1 g1 q1 => ?_
  cases r with
  | d x =>
    cases x with
    | list xs =>
      cases q1 with
      | lst h1 h2 => exact ⟨_, rfl, ⟨_, SqL.of (g1.cfg.sub _ _ h1)⟩, p1 _ F1 H1 _ g1 h2 (jw_list (SqL.of h1))⟩
    | _ => exact p1.elim
  | ol xs =>
    obtain ⟨p, vs, rfl, n0, f, hp, q2⟩ := q1
    have g2 := g1.freeze n0 f hp
    have s2 : Same F1 (upd F1 p (.lst vs)) := fun b u k => by rw [upd_ne (ne_of_none k f)]; exact k
    exact ⟨p, rfl, ⟨_, SqL.of hp⟩, p1 _ _ H1 vs g2 (DqA.mono s2 _ _ q2) (jw_list (SqL.of upd_same))⟩
  | sc ns =>
    obtain ⟨a, rfl, q2⟩ := q1
    exact ⟨a, rfl, ⟨_, g1.cfg.sub.seq q2⟩, p1 _ F1 H1 _ g1 (DqA.of_ints ns) (jw_list q2)⟩
  | _ => exact p1.elim
theorem DqA.rng {K : PySem.W.Frag} {F : Hp} (lo : Int) (n : Nat) : DqA K F ((List.range n).map fun i : Nat => V.int (lo + (i : Int))) (rngL lo n) := by
  have := DqA.of_ints (K := K) (F := F) ((List.range n).map fun i : Nat => lo + (i : Int))
  rw [List.map_map, List.map_map] at this
  exact this
def gR1 : List RV → Rs (List PyData)
  | [.d (.int j)] => if j.natAbs ≤ 1000000 then .ok (rngL 0 j.toNat) else .no
  | _ => .no
def iR (g : List RV → Rs (List PyData)) (fe : VEnv → Rs (List RV)) : VEnv → Rs (List PyData) := fun env => (fe env).bind g
theorem vi_range1 {tg : Expr} {p pos : Pos} {f : VEnv → Rs (List RV)} (hg : Gl X "range") (hm : X.mg "range" = none) (ha : VA ca W X [a] f) (hs : starEach [a] X.env = [(false, eval a X.env)] := by rfl) : VI ca W X tg (.Call (.Name "range" p) [a] [] pos) (iR gR1 f) := by
  obtain ⟨t, pa, sa⟩ := ha
  refine ⟨_, pi_range1 hg hm pa hs, fun B F env σ H R st q => ?_⟩
  show t σ H fun vs H1 => ∃ j : Int, vs = [.int j] ∧ -(2 ^ 62) ≤ j ∧ j < 2 ^ 62 ∧ R (Itr 0 j.toNat) H1
  refine seqA (PostI X.K ca W σ F H R) sa st q (fun _ _ h => h) (fun h => h) fun rs F1 H1 vs p1 g1 q1 => ?_
  unfold gR1 at p1
  split at p1
  · rename_i j
    split at p1
    · rename_i hj
      cases q1 with
      | cons h1 h2 =>
        cases h2
        cases h1
        exact ⟨j, rfl, by omega, by omega, p1 _ F1 H1 _ g1 (DqA.rng 0 j.toNat) (jw_rng 0 j.toNat)⟩
    · exact p1.elim
  · exact p1.elim
inductive Tg where
  | nm (i : Nat) | tp (is : List Nat)
def tgEs : List Nat → List PyData → VEnv → Option VEnv
  | [], [], env => some env
  | i :: is, x :: xs, env => if i < env.length then tgEs is xs (env.set i (some (.d x))) else none
  | _, _, _ => none
def tgE : Tg → PyData → VEnv → Option VEnv
  | .nm i, x, env => if i < env.length then some (env.set i (some (.d x))) else none
  | .tp is, .tuple xs, env => tgEs is xs env
  | .tp _, _, _ => none
def gNms : List Nat → TGs
  | [] => gNil
  | i :: is => gCons (gName i) (gNms is)
def tgT (K : PySem.W.Frag) : Tg → TG
  | .nm i => gName i
  | .tp is => gTup K is.length (gNms is)
def setAll : List Nat → List V → L2.St → L2.St
  | i :: is, v :: vs, σ => setAll is vs (σ.set i (some v))
  | _, _, σ => σ
theorem StOk.putD {K : PySem.W.Frag} {B : Base} {F H : Hp} {env : VEnv} {σ : L2.St} (st : StOk K ca B F env σ H) {i : Nat} (hi : i < env.length) {v : V} {x : PyData} (q : Dq K F v x) : StOk K ca B F (env.set i (some (.d x))) (σ.set i (some v)) H :=
  st.put0 hi q rfl rfl
theorem snd_tgs {K : PySem.W.Frag} {B : Base} {F H : Hp} : ∀ {is : List Nat} {xs : List PyData} {vs : List V} {env env' : VEnv} {σ : L2.St} {Q : L2.St → Hp → Prop}, StOk K ca B F env σ H → DqA K F vs xs → tgEs is xs env = some env' → (StOk K ca B F env' (setAll is vs σ) H → Q (setAll is vs σ) H) → gNms is vs σ H Q
  | [], [], _, env, env', σ, Q, st, q, e, h => by cases q; cases e; exact ⟨rfl, h st⟩
  | [], _ :: _, _, env, env', σ, Q, st, q, e, h => by cases e
  | i :: is, [], _, env, env', σ, Q, st, q, e, h => by cases e
  | i :: is, x :: xs, _, env, env', σ, Q, st, q, e, h => by
    cases q with
    | cons h1 h2 =>
      rename_i v vs
      unfold tgEs at e
      split at e
      · rename_i hi
        exact ⟨v, vs, rfl, snd_tgs (st.putD hi h1) h2 e h⟩
      · cases e
def tgIx : Tg → List Nat
  | .nm i => [i]
  | .tp is => is
def tgSt (tg : Tg) (v : V) (vs : List V) (σ : L2.St) : L2.St := match tg with
  | .nm i => σ.set i (some v)
  | .tp is => setAll is vs σ
theorem snd_tg {K : PySem.W.Frag} {B : Base} {F H : Hp} {tg : Tg} {x : PyData} {v : V} {env env' : VEnv} {σ : L2.St} {Q : L2.St → Hp → Prop} (st : StOk K ca B F env σ H) (q : Dq K F v x) (e : tgE tg x env = some env') (h : ∀ vs, StOk K ca B F env' (tgSt tg v vs σ) H → Q (tgSt tg v vs σ) H) : tgT K tg v σ H Q := by
  cases tg with
  | nm i =>
    by_cases hi : i < env.length
    · have e' : some (env.set i (some (.d x))) = some env' := by simpa [tgE, hi] using e
      cases e'
      exact h [] (st.putD hi q)
    · simp [tgE, hi] at e
  | tp is =>
    cases x with
    | tuple xs =>
      cases q with
      | tup h1 h2 =>
        rename_i a vs
        refine ⟨a, vs, rfl, same_seqT st.cfg.sub h1.1, ?_, snd_tgs st h2 e (h vs)⟩
        rw [h2.length]
        have : ∀ (is : List Nat) (xs : List PyData) (env : VEnv), tgEs is xs env = some env' → xs.length = is.length := by
          intro is
          induction is with
          | nil => intro xs env e; cases xs with
            | nil => rfl
            | cons _ _ => cases e
          | cons i is ih => intro xs env e; cases xs with
            | nil => cases e
            | cons x xs =>
              unfold tgEs at e
              split at e
              · simp [ih xs _ e]
              · cases e
        exact this is xs env e
    | _ => cases e
structure VG (X : Cx) (target : Expr) (tg : Tg) : Prop where
  ex : PG X target (tgT X.K tg)
structure VGs (X : Cx) (es : List Expr) (is : List Nat) : Prop where
  ex : PGs X es (gNms is)
theorem vg_name {i : Nat} {x : Str} (hN : X.N.Nodup) (hi : X.N[i]? = some x) (hx : Loc X.env.scope x) (hf : X.fn x = true ∨ X.env.scope.names.lookup x = some .local := by first | exact .inl rfl | exact .inr rfl | assumption) : VG X (.Name x pos) (.nm i) := ⟨pg_name hN hi hx hf⟩
theorem vgs_nil : VGs X [] [] := ⟨pgs_nil⟩
theorem vgs_cons {i : Nat} {x : Str} {is : List Nat} (hN : X.N.Nodup) (hi : X.N[i]? = some x) (hx : Loc X.env.scope x) (h2 : VGs X es is) (hf : X.fn x = true ∨ X.env.scope.names.lookup x = some .local := by first | exact .inl rfl | exact .inr rfl | assumption)
    (hs : (assignEach (.Name x pos :: es) X.env).map (·.2) = assign (.Name x pos) X.env :: (assignEach es X.env).map (·.2) := by rfl) : VGs X (.Name x pos :: es) (i :: is) := ⟨pgs_cons (pg_name hN hi hx hf) h2.ex hs⟩
theorem vg_tup {k : Nat} {is : List Nat} (hc : X.calm = true) (h : VGs X es is) (hn : (assignEach es X.env).length = is.length := by rfl) (hst : (assignEach es X.env).findIdx? (·.1) = none := by rfl) : VG X (.Tuple es k pos) (.tp is) := ⟨pg_tup hc h.ex hn hst⟩
def sUnp (tg : Tg) (fe : VEnv → Rs RV) : VEnv → Out := fun env => (fe env).out env fun r => match r.toD with
  | some x => (match tgE tg x env with | some env' => .nx env' | none => .no)
  | none => .no
theorem vs_unp {tg : Expr} {g : Tg} (he : VE ca W X e fa) (hg : VG X tg g) (hs : swapsWithSole [tg] e pos.line X.env = pure false := by rfl) (hw : swappedStores [tg] e X.env = pure none := by rfl)
    (h1 : (assignEach [tg] X.env).map (·.2) = [assign tg X.env] := by rfl) : VS ca W X (.Assign [tg] e pos) (sUnp g fa) := by
  obtain ⟨t, pe, se⟩ := he
  refine ⟨_, ps_asg pe hg.ex hs hw h1, fun B F env σ H D st p => ?_⟩
  show t σ H fun x H1 => tgT X.K g x σ H1 D.nx
  refine outE se st p fun r F1 H1 v p1 gg q => ?_
  cases e1 : r.toD with
  | none => rw [e1] at p1; exact p1.elim
  | some x =>
    rw [e1] at p1
    obtain ⟨F2, g2, s2, q2⟩ := frz gg (Fz.of q e1)
    simp only at p1
    cases e2 : tgE g x env with
    | none => rw [e2] at p1; exact p1.elim
    | some env' => rw [e2] at p1; exact snd_tg (st.grow g2) q2 e2 fun vs st' => p1 F2 _ H1 s2 st'
def loopF (tg : Tg) (f : VEnv → Out) : List PyData → VEnv → Out
  | [], env => .nx env
  | x :: xs, env => match tgE tg x env with
    | none => .no
    | some e1 => match f e1 with
      | .nx e => loopF tg f xs e
      | .ct e => loopF tg f xs e
      | .bk e => .nx e
      | o => o
def sFor (tg : Tg) (src : VEnv → Rs (List PyData)) (f : VEnv → Out) : VEnv → Out := fun env => (src env).out env fun xs => loopF tg f xs env
theorem drop_cons {α : Type} {xs : List α} {i : Nat} {x : α} (h : xs[i]? = some x) : xs.drop i = x :: xs.drop (i + 1) := by
  obtain ⟨h1, h2⟩ := List.getElem?_eq_some_iff.mp h
  rw [← h2]
  exact List.drop_eq_getElem_cons h1
theorem vs_for {tg iter : Expr} {body : List Stmt} {src : VEnv → Rs (List PyData)} {g : Tg} (hp : PassesOwn (model X.prog X.w) X.A X.env X.xe) (hc : X.calm = true) (hi : VI ca W X tg iter src) (hg : VG X tg g) (hb : VSs ca W X body f)
    (hs : ∀ x, foldedSetIterable iter X.env x = pure x := by intro _; rfl) : VS ca W X (.For tg iter body [] pos) (sFor g src f) := by
  obtain ⟨t, pi, si⟩ := hi
  obtain ⟨tb, pb, sb⟩ := hb
  refine ⟨_, ps_for hp hc pi hg.ex pb hs, fun B F env σ H D st p => ?_⟩
  refine si B F env σ H _ st ?_
  unfold sFor at p
  cases e : src env with
  | no => rw [e] at p; exact p
  | ex c fs => rw [e] at p; exact exOut st p
  | ok xs =>
    rw [e] at p
    intro J F1 H1 vs g1 d1 jw
    refine ⟨fun i m σ H => m = vs.length - i ∧ i ≤ vs.length ∧ ∃ F' env', Same F1 F' ∧ StOk X.K ca B F' env' σ H ∧ PostS X.K ca W B F' D (loopF g f (xs.drop i) env'), ⟨_, rfl, Nat.zero_le _, F1, env, Same.refl _, st.grow g1, PostS.mono g1.ff p⟩, ?_⟩
    rintro i m σ2 H2 ⟨rfl, hi, F2, env2, s2, st2, p2⟩
    have s3 : Same F1 H2 := s2.trans st2.cfg.sub
    by_cases hlt : i < vs.length
    · obtain ⟨x, hx, qx⟩ := DqA.get' d1 (List.getElem?_eq_getElem hlt)
      rw [drop_cons hx] at p2
      unfold loopF at p2
      refine .inr ⟨jw.go i H2 s3.n hlt, fun σ' H' => ∃ F' env', Same F1 F' ∧ StOk X.K ca B F' env' σ' H' ∧ PostS X.K ca W B F' D (loopF g f (xs.drop (i + 1)) env'), fun σ' H' z => ⟨vs.length - (i + 1), by omega, rfl, hlt, z⟩, fun y H' hy => ?_⟩
      obtain ⟨rfl, e2⟩ := jw.yld i H2 y H' s3.n hy hlt
      rw [List.getElem?_eq_getElem hlt] at e2
      cases e2
      cases e3 : tgE g x env2 with
      | none => rw [e3] at p2; exact p2.elim
      | some env3 =>
        rw [e3] at p2
        simp only at p2
        refine snd_tg st2 (qx.mono s2) e3 fun ws st3 => ?_
        refine sb B F2 env3 _ _ _ st3 ?_
        cases e4 : f env3 with
        | nx env' => rw [e4] at p2; exact fun F' σ' H' s st' => ⟨F', env', s2.trans s, st', PostS.mono s p2⟩
        | ct env' => rw [e4] at p2; exact fun F' σ' H' s st' => ⟨F', env', s2.trans s, st', PostS.mono s p2⟩
        | bk env' => rw [e4] at p2; exact p2
        | rt r => rw [e4] at p2; exact p2
        | rm o d => rw [e4] at p2; exact p2
        | rp x fs d => rw [e4] at p2; exact p2
        | ex c fs env' => rw [e4] at p2; exact p2
        | no => rw [e4] at p2; exact p2
    · have e5 : i = vs.length := by omega
      subst e5
      rw [List.drop_eq_nil_of_le (by rw [d1.length]; exact Nat.le_refl _)] at p2
      exact .inl ⟨jw.stop H2 s3.n, p2 F2 σ2 H2 (Same.refl _) st2⟩
end
end VL
namespace VL
open PySem PySem.Spec PyProof.Rows L2
abbrev W0 : WX := fun _ _ _ _ => False
section
variable {ca : CA} {W : WX} {X : Cx} {a b e : Expr} {es : List Expr} {fa fb : VEnv → Rs RV} {pos : Pos} {st : Stmt} {rest : List Stmt} {f g : VEnv → Out}
def wipeE (env : VEnv) : List Nat → VEnv
  | [] => env
  | v :: vs => (wipeE env vs).set v none
theorem wipe_ok {K : PySem.W.Frag} {B : Base} {F H : Hp} {env : VEnv} {σ : L2.St} (st : StOk K ca B F env σ H) : ∀ vs : List Nat, StOk K ca B F (wipeE env vs) (wipe σ vs) H
  | [] => st
  | v :: vs => (wipe_ok st vs).drop v
theorem wipe_get {σ : L2.St} {i : Nat} {vs : List Nat} (h : i ∈ vs) : (wipe σ vs)[i]? = some none ∨ (wipe σ vs)[i]? = none := by
  cases e : (wipe σ vs)[i]? with
  | none => exact .inr rfl
  | some o =>
    cases o with
    | none => exact .inl rfl
    | some v => exact absurd h (wipe_some e).2
theorem wipe_all {σ σ' : L2.St} {vs : List Nat} (hl : σ'.length = σ.length) (h : ∀ i, i ∉ vs → σ'[i]? = σ[i]?) : wipe σ' vs = wipe σ vs := by
  apply List.ext_getElem?
  intro i
  by_cases hi : i ∈ vs
  · have l1 := wipe_length σ' vs
    have l2 := wipe_length σ vs
    rcases wipe_get (σ := σ') hi with h1 | h1 <;> rcases wipe_get (σ := σ) hi with h2 | h2
    · rw [h1, h2]
    · have a1 := (List.getElem?_eq_some_iff.mp h1).1
      have a2 := List.getElem?_eq_none_iff.mp h2
      omega
    · have a1 := (List.getElem?_eq_some_iff.mp h2).1
      have a2 := List.getElem?_eq_none_iff.mp h1
      omega
    · rw [h1, h2]
  · rw [wipe_out hi, wipe_out hi]
    exact h i hi
theorem wipe_wipe {σ : L2.St} (vs : List Nat) : wipe (wipe σ vs) vs = wipe σ vs := wipe_all (wipe_length σ vs) fun i hi => wipe_out hi
theorem setAll_len : ∀ (is : List Nat) (vs : List V) (σ : L2.St), (setAll is vs σ).length = σ.length
  | [], _, σ => by unfold setAll; rfl
  | i :: is, [], σ => by unfold setAll; rfl
  | i :: is, v :: vs, σ => by unfold setAll; rw [setAll_len is vs]; simp
theorem setAll_get : ∀ (is : List Nat) (vs : List V) (σ : L2.St) (j : Nat), j ∉ is → (setAll is vs σ)[j]? = σ[j]?
  | [], _, σ, j, _ => by unfold setAll; rfl
  | i :: is, [], σ, j, _ => by unfold setAll; rfl
  | i :: is, v :: vs, σ, j, h => by
    unfold setAll
    rw [setAll_get is vs _ j (fun z => h (List.mem_cons_of_mem _ z)), List.getElem?_set_ne (fun z => h (by subst z; exact List.mem_cons_self))]
theorem tgSt_wipe {tg : Tg} {v : V} {vs : List V} {σ : L2.St} {own : List Nat} (h : ∀ i ∈ tgIx tg, i ∈ own) : wipe (tgSt tg v vs (wipe σ own)) own = wipe σ own := by
  rw [← wipe_wipe (σ := σ) own]
  cases tg with
  | nm i =>
    rw [wipe_wipe]
    refine (wipe_all (σ' := (wipe σ own).set i (some v)) (σ := wipe σ own) (by simp) fun j hj => ?_).trans (wipe_wipe own)
    have hij : i ≠ j := fun z => by subst z; exact hj (h i (by simp [tgIx]))
    rw [List.getElem?_set_ne hij]
  | tp is =>
    rw [wipe_wipe]
    refine (wipe_all (σ' := setAll is vs (wipe σ own)) (σ := wipe σ own) (setAll_len is vs _) fun j hj => ?_).trans (wipe_wipe own)
    exact setAll_get is vs _ j fun z => hj (h j z)
structure VTs (ca : CA) (W : WX) (X : Cx) (ifs : List Expr) (f : VEnv → Rs Bool) : Prop where
  ex : ∃ t, PTs X ifs t ∧ SndT X.K ca W t f
def bYes : VEnv → Rs Bool := fun _ => .ok true
theorem vts_nil : VTs ca W X [] bYes := ⟨_, pts_nil, fun _ _ _ _ _ _ st p => p _ _ (Grow.refl st.cfg)⟩
theorem vts_one {c : Expr} {t : VEnv → Rs Bool} (h : VT ca W X c t) : VTs ca W X [c] t := by
  obtain ⟨t, pe, se⟩ := h
  exact ⟨_, pts_one pe, se⟩
def lcF (tg : Tg) (t : VEnv → Rs Bool) (fe : VEnv → Rs RV) (env : VEnv) : List PyData → Rs (List PyData)
  | [] => .ok []
  | x :: xs => match tgE tg x env with
    | none => .no
    | some e1 => match t e1 with
      | .ok true => (match fe e1 with
        | .ok r => (match r.toD with
          | some d => (lcF tg t fe env xs).bind fun ds => .ok (d :: ds)
          | none => .no)
        | _ => .no)
      | .ok false => lcF tg t fe env xs
      | _ => .no
theorem lcF_ex {tg : Tg} {t : VEnv → Rs Bool} {fe : VEnv → Rs RV} {env : VEnv} {c : Nat} {fs : List (Str × PyData)} : ∀ xs : List PyData, lcF tg t fe env xs ≠ .ex c fs
  | [], h => by cases h
  | x :: xs, h => by
    have ih := lcF_ex (tg := tg) (t := t) (fe := fe) (env := env) (c := c) (fs := fs) xs
    unfold lcF at h
    split at h
    · cases h
    · split at h
      · split at h
        · split at h
          · cases e : lcF tg t fe env xs with
            | ok ds => rw [e] at h; cases h
            | ex c' fs' => rw [e] at h; simp at h; exact ih (by rw [e, h.1, h.2])
            | no => rw [e] at h; cases h
          · cases h
        · cases h
      · exact ih h
      · cases h
def cLc (src : VEnv → Rs (List PyData)) (own : List Nat) (tg : Tg) (t : VEnv → Rs Bool) (fe : VEnv → Rs RV) : VEnv → Rs RV := fun env => (src env).bind fun xs => if xs.length ≤ 1000000 then (lcF tg t fe (wipeE env own) xs).bind fun ds => .ok (.ol ds) else .no
theorem million {n : Nat} (h : n ≤ 1000000) : n < sizeLine := Nat.lt_of_le_of_lt h (by decide)
theorem snd_lc {K : PySem.W.Frag} {wi : TI} {tt : TT} {te : TE} {src : VEnv → Rs (List PyData)} {own : List Nat} {tg : Tg} {t : VEnv → Rs Bool} {fe : VEnv → Rs RV} (ho : ∀ i ∈ tgIx tg, i ∈ own) (si : SndJ K ca W wi src) (s1 : SndT K ca W0 tt t) (s2 : SndE K ca W0 te fe) :
    SndE K ca W (tLc wi (tgT K tg) tt te own) (cLc src own tg t fe) := by
  intro B F env σ H Q st p
  refine si B F env σ H _ st ?_
  unfold cLc at p
  cases e : src env with
  | no => rw [e] at p; exact p
  | ex c fs => rw [e] at p; exact p
  | ok xs =>
    rw [e] at p
    simp only [Rs.bind_ok] at p
    split at p
    · rename_i hz
      cases e2 : lcF tg t fe (wipeE env own) xs with
      | no => rw [e2] at p; exact p.elim
      | ex c fs => exact absurd e2 (lcF_ex xs)
      | ok res =>
        rw [e2] at p
        intro J F1 H1 vs g1 d1 jw D nD
        have stw : StOk K ca B F1 (wipeE env own) (wipe σ own) H1 := wipe_ok (st.grow g1) own
        have fD : F1 D = none := same_none g1.cfg.sub nD
        refine ⟨fun i m H => m = vs.length - i ∧ i ≤ vs.length ∧ ∃ F' acc ds rs, Grow F1 H1 F' H ∧ F' D = none ∧ H D = some (.lst acc) ∧ DqA K F' acc ds ∧ lcF tg t fe (wipeE env own) (xs.drop i) = .ok rs ∧ ds ++ rs = res ∧ ds.length ≤ i,
          ⟨_, rfl, Nat.zero_le _, F1, [], [], res, Grow.newO g1.cfg _ nD (fun _ z => by cases z), fD, upd_same, .nil, e2, rfl, Nat.le_refl _⟩, ?_⟩
        rintro i m H2 ⟨rfl, hi, F2, acc, ds, rs, g2, f2, hD, q2, er, es, dl⟩
        by_cases hlt : i < vs.length
        · obtain ⟨x, hx, qx⟩ := DqA.get' d1 (List.getElem?_eq_getElem hlt)
          rw [drop_cons hx] at er
          unfold lcF at er
          refine .inr ⟨jw.go i H2 g2.hh hlt, fun H => i + 1 ≤ vs.length ∧ ∃ F' acc ds rs, Grow F1 H1 F' H ∧ F' D = none ∧ H D = some (.lst acc) ∧ DqA K F' acc ds ∧ lcF tg t fe (wipeE env own) (xs.drop (i + 1)) = .ok rs ∧ ds ++ rs = res ∧ ds.length ≤ i + 1,
            fun H' z => ⟨vs.length - (i + 1), by omega, rfl, z.1, z.2⟩, fun y H' hy => ?_⟩
          obtain ⟨rfl, e5⟩ := jw.yld i H2 y H' g2.hh hy hlt
          rw [List.getElem?_eq_getElem hlt] at e5
          cases e5
          cases e3 : tgE tg x (wipeE env own) with
          | none => rw [e3] at er; cases er
          | some env3 =>
            rw [e3] at er
            simp only at er
            refine snd_tg (stw.grow g2) (qx.mono g2.ff) e3 fun ws st3 => ⟨tgSt_wipe ho, ?_⟩
            refine s1 B F2 env3 _ _ _ st3 ?_
            cases e4 : t env3 with
            | no => rw [e4] at er; cases er
            | ex c fs => rw [e4] at er; cases er
            | ok b =>
              rw [e4] at er
              intro F4 H4 g4
              have f4 : F4 D = none := g4.stillFree f2 hD
              cases b with
              | false =>
                rw [if_neg Bool.false_ne_true]
                exact ⟨hlt, F4, acc, ds, rs, g2.trans g4, f4, g4.hh _ _ hD, DqA.mono g4.ff _ _ q2, er, es, by omega⟩
              | true =>
                rw [if_pos rfl]
                simp only at er
                refine s2 B F4 env3 _ H4 _ (st3.grow g4) ?_
                cases e6 : fe env3 with
                | no => rw [e6] at er; cases er
                | ex c fs => rw [e6] at er; cases er
                | ok r =>
                  rw [e6] at er
                  simp only at er
                  cases e7 : r.toD with
                  | none => rw [e7] at er; cases er
                  | some d =>
                    rw [e7] at er
                    simp only at er
                    cases e8 : lcF tg t fe (wipeE env own) (xs.drop (i + 1)) with
                    | no => rw [e8] at er; cases er
                    | ex c fs => rw [e8] at er; cases er
                    | ok rs' =>
                      rw [e8] at er
                      simp at er
                      intro F6 H6 v6 g6 q6
                      obtain ⟨F7, g7, s7, q7⟩ := frz g6 (Fz.of q6 e7)
                      have g8 : Grow F1 H1 F7 H6 := (g2.trans g4).trans g7
                      have h6 : H6 D = some (.lst acc) := g7.hh _ _ (g4.hh _ _ hD)
                      have f7 : F7 D = none := g7.stillFree f4 (g4.hh _ _ hD)
                      have qa : DqA K F7 acc ds := DqA.mono g7.ff _ _ (DqA.mono g4.ff _ _ q2)
                      have al : acc.length = ds.length := qa.length
                      refine ⟨acc, h6, million (by have := d1.length; omega), hlt, F7, acc ++ [v6], ds ++ [d], rs', g8.write nD f7 h6 (fun _ z => by cases z), f7, upd_same, qa.append (.cons q7 .nil), rfl, ?_, by simp; omega⟩
                      rw [← es, ← er]
                      simp
        · have e5 : i = vs.length := by omega
          subst e5
          rw [List.drop_eq_nil_of_le (by rw [d1.length]; exact Nat.le_refl _)] at er
          cases er
          rw [List.append_nil] at es
          subst es
          exact .inl ⟨jw.stop H2 g2.hh, p F2 H2 (.ref D) (g1.trans g2) ⟨D, acc, rfl, none_n g1.hh nD, f2, hD, q2⟩⟩
    · exact p.elim
def tU (K : PySem.W.Frag) (ca : CA) (W : WX) (f : VEnv → Rs RV) : TE := fun σ H Q => ∃ B F env, StOk K ca B F env σ H ∧ PostE K ca W σ F H Q (f env)
def tUT (K : PySem.W.Frag) (ca : CA) (W : WX) (f : VEnv → Rs Bool) : TT := fun σ H Q => ∃ B F env, StOk K ca B F env σ H ∧ PostB K ca W σ F H Q (f env)
theorem VE.pe {f : VEnv → Rs RV} (h : VE ca W X e f) : PE X e (tU X.K ca W f) := by
  obtain ⟨t, p, s⟩ := h
  exact ⟨fun pins s0 σ H Q I ⟨B, F, env, st, q⟩ => p.run pins s0 σ H Q I (s B F env σ H Q st q)⟩
theorem VTs.pt {ifs : List Expr} {f : VEnv → Rs Bool} (h : VTs ca W X ifs f) : PTs X ifs (tUT X.K ca W f) := by
  obtain ⟨t, p, s⟩ := h
  exact ⟨fun pins s0 σ H Q I ⟨B, F, env, st, q⟩ => p.run pins s0 σ H Q I (s B F env σ H Q st q)⟩
theorem vs_setLc {i : Nat} {y : Str} {py : Pos} {elt tg iter : Expr} {ifs : List Expr} {scope : Scope} {own : List (Str × Nat)} {spos : Pos} {src : VEnv → Rs (List PyData)} {g : Tg} {t : VEnv → Rs Bool} {fe : VEnv → Rs RV} (hc : X.calm = true) (hN : X.N.Nodup) (hy : X.N[i]? = some y) (hyl : X.env.scope.names.lookup y = some .local)
    (hsw : swapsWith (.ListComp elt [⟨tg, iter, ifs, 0⟩] scope pos) (some (.Name y py)) spos.line X.env = pure true) (hi : VJ ca W X tg iter src) (ok : BlkOk X.N X.env.scope scope own) (ho : ∀ i ∈ tgIx g, i ∈ own.map (·.2))
    (hg : ∀ (s : Shared) (H : Hp) (C : Addr) (cl : List (Str × Addr)) (fp : List Addr), VG (X.blk s H scope (compEnvC scope cl C X.env) fp) tg g) (ht : ∀ (s : Shared) (H : Hp) (C : Addr) (cl : List (Str × Addr)) (fp : List Addr), VTs ca W0 (X.blk s H scope (compEnvC scope cl C X.env) fp) ifs t)
    (he : ∀ (s : Shared) (H : Hp) (C : Addr) (cl : List (Str × Addr)) (fp : List Addr), VE ca W0 (X.blk s H scope (compEnvC scope cl C X.env) fp) elt fe) (hs : ∀ x, foldedSetIterable iter X.env x = pure x := by intro _; rfl) :
    VS ca W X (.Assign [.Name y py] (.ListComp elt [⟨tg, iter, ifs, 0⟩] scope pos) spos) (sSet i (cLc src (own.map (·.2)) g t fe)) := by
  obtain ⟨wi, pi, si⟩ := hi
  refine ⟨_, ps_setLc hc hN hy hyl hsw pi ok (fun s H C cl fp => (show PG _ tg (tgT X.K g) from (hg s H C cl fp).ex)) (fun s H C cl fp => (show PTs _ ifs (tUT X.K ca W0 t) from (ht s H C cl fp).pt)) (fun s H C cl fp => (show PE _ elt (tU X.K ca W0 fe) from (he s H C cl fp).pe)) hs, fun B F env σ H D st p => ?_⟩
  have se := snd_lc (own := own.map (·.2)) (W := W) ho si (fun B F env σ H Q st q => ⟨B, F, env, st, q⟩ : SndT X.K ca W0 (tUT X.K ca W0 t) t) (fun B F env σ H Q st q => ⟨B, F, env, st, q⟩ : SndE X.K ca W0 (tU X.K ca W0 fe) fe)
  show tLc wi (tgT X.K g) (tUT X.K ca W0 t) (tU X.K ca W0 fe) (own.map (·.2)) σ H fun x H1 => D.nx (σ.set i (some x)) H1
  exact outE se st p fun r F1 H1 v p1 g q => snd_put st g q p1
def RV.arg : RV → RV
  | .ol xs => .d (.list xs)
  | .od xs => .bd xs
  | .ot xs => .bt xs
  | .ob _ x fs => .bo x fs
  | r => r
theorem arg1 {K : PySem.W.Frag} {F0 H0 F H F1 : Hp} {v : V} {r : RV} (g1 : Grow F0 H0 F1 H) (s1 : Same F F1) (h1 : RVok K H0 F H v r) : ∃ F', Grow F0 H0 F' H ∧ Same F1 F' ∧ RVok K H F' H v r.arg := by
  cases r with
  | d x => exact ⟨F1, g1, Same.refl _, Dq.mono s1 x v h1⟩
  | ol xs =>
    obtain ⟨F2, g2, s2, q2⟩ := frz g1 ((Fz.of h1 (d := .list xs) rfl).mono s1)
    exact ⟨F2, g2, s2, q2⟩
  | bl xs => obtain ⟨p, ws, e1, hp, q⟩ := h1; exact ⟨F1, g1, Same.refl _, p, ws, e1, hp, DqA.mono s1 _ _ q⟩
  | od xs => obtain ⟨p, ws, e1, _, _, hp, q⟩ := h1; exact ⟨F1, g1, Same.refl _, p, ws, e1, .inl hp, q.mono s1⟩
  | bd xs => obtain ⟨p, ws, e1, hp, q⟩ := h1; exact ⟨F1, g1, Same.refl _, p, ws, e1, hp, q.mono s1⟩
  | ot xs => obtain ⟨p, ws, e1, _, _, hp, q⟩ := h1; exact ⟨F1, g1, Same.refl _, p, ws, e1, hp, q.mono s1⟩
  | bt xs => obtain ⟨p, ws, e1, hp, q⟩ := h1; exact ⟨F1, g1, Same.refl _, p, ws, e1, hp, q.mono s1⟩
  | sc ns => obtain ⟨a, e1, q⟩ := h1; exact ⟨F1, g1, Same.refl _, a, e1, s1.seq q⟩
  | xo a dd c fs => obtain ⟨e1, xs, hp, q⟩ := h1; exact ⟨F1, g1, Same.refl _, e1, xs, hp, q.mono s1⟩
  | t3 x ys kvs => exact ⟨F1, g1, Same.refl _, t3_mono s1 h1⟩
  | fd kvs => exact ⟨F1, g1, Same.refl _, fd_mono s1 h1⟩
  | ob me x fs => obtain ⟨p, e1, h⟩ := h1; exact ⟨F1, g1, Same.refl _, p, e1, h.bo.to s1 rfl fun q _ ws e => e⟩
  | bo x fs => obtain ⟨p, e1, h⟩ := h1; exact ⟨F1, g1, Same.refl _, p, e1, h.to s1 rfl fun q _ ws e => e⟩
theorem arg_own (r : RV) : r.arg.own = false := by cases r <;> rfl
theorem arg_mono {K : PySem.W.Frag} {H F F' : Hp} (s : Same F F') {v : V} {r : RV} (ho : r.own = false) (h : RVok K H F H v r) : RVok K H F' H v r := by
  cases r with
  | d x => exact Dq.mono s x v h
  | bl xs => obtain ⟨p, ws, e1, hp, q⟩ := h; exact ⟨p, ws, e1, hp, DqA.mono s _ _ q⟩
  | bd xs => obtain ⟨p, ws, e1, hp, q⟩ := h; exact ⟨p, ws, e1, hp, q.mono s⟩
  | bt xs => obtain ⟨p, ws, e1, hp, q⟩ := h; exact ⟨p, ws, e1, hp, q.mono s⟩
  | sc ns => obtain ⟨a, e1, q⟩ := h; exact ⟨a, e1, s.seq q⟩
  | xo a dd c fs => obtain ⟨e1, xs, hp, q⟩ := h; exact ⟨e1, xs, hp, q.mono s⟩
  | t3 x ys kvs => exact t3_mono s h
  | fd kvs => exact fd_mono s h
  | bo x fs => obtain ⟨p, e1, h⟩ := h; exact ⟨p, e1, h.to s rfl fun q _ ws e => e⟩
  | _ => cases ho
theorem args_go {K : PySem.W.Frag} {F0 H0 F H : Hp} : ∀ {vs : List V} {rs : List RV} {F1 : Hp}, Grow F0 H0 F1 H → Same F F1 → Paired (fun v r => RVok K H0 F H v r) vs rs →
    ∃ F', Grow F0 H0 F' H ∧ Same F1 F' ∧ Paired (fun v r => RVok K H F' H v r) vs (rs.map RV.arg)
  | _, _, F1, g, s, .nil => ⟨F1, g, Same.refl _, .nil⟩
  | _, _, F1, g, s, .cons (b := r) h1 h2 => by
    obtain ⟨F2, g2, s2, q2⟩ := arg1 g s h1
    obtain ⟨F3, g3, s3, q3⟩ := args_go g2 (s.trans s2) h2
    exact ⟨F3, g3, s2.trans s3, .cons (arg_mono s3 (arg_own r) q2) q3⟩
def PostF (K : PySem.W.Frag) (ca : CA) (G H : Hp) (Q : VK) (E : XK) : Rs RV → Prop
  | .ok r => ∀ G' H' v, Grow G H G' H' → RVok K H G' H' v r → Q v H'
  | .ex c fs => ∀ G' H' cls dx, Grow G H G' H' → ExOk K ca G' H' cls dx c fs → E cls dx H'
  | .no => False
def spV (K : PySem.W.Frag) (ca : CA) (n : Nat) (F : List RV → Rs RV) : Sp := fun vs H Q E => vs.length = n ∧ ∃ G rs, Cfg G H ∧ TabOk ca.T G H ∧ Paired (fun v r => RVok K H G H v r) vs rs ∧ PostF K ca G H Q E (F rs)
def Out.fin : Out → Rs RV
  | .nx _ => .ok (.d .none)
  | .rt r => .ok r
  | .ex c fs _ => .ex c fs
  | _ => .no
def fnD (n : Nat) (body : VEnv → Out) : List RV → Rs RV := fun rs => (body (rs.map some ++ List.replicate (n - rs.length) none)).fin
theorem start_ok {K : PySem.W.Frag} {ca : CA} {G H : Hp} {vs : List V} {rs : List RV} (N : List Str) (c : Cfg G H) (tb : TabOk ca.T G H) (h : Paired (fun v r => RVok K H G H v r) vs rs) : StOk K ca { F := G, H := H } G (rs.map some ++ List.replicate (N.length - rs.length) none) (start N vs) H := by
  have hl : vs.length = rs.length := Paired.length h
  have get : ∀ (i : Nat) (r : RV), (rs.map some ++ List.replicate (N.length - rs.length) none)[i]? = some (some r) → ∃ v, (start N vs)[i]? = some (some v) ∧ RVok K H G H v r := by
    intro i r e
    by_cases hi : i < rs.length
    · rw [List.getElem?_append_left (by simpa using hi), List.getElem?_map] at e
      have e1 : rs[i]? = some r := by
        cases z : rs[i]? with
        | none => rw [z] at e; cases e
        | some y => rw [z] at e; cases e; rfl
      have go : ∀ {vs : List V} {rs : List RV} {i : Nat}, Paired (fun v r => RVok K H G H v r) vs rs → rs[i]? = some r → ∃ v, vs[i]? = some v ∧ RVok K H G H v r := by
        intro vs rs i h
        induction h generalizing i with
        | nil => intro e; simp at e
        | cons h1 h2 ih => intro e; cases i with
          | zero => simp at e; subst e; exact ⟨_, rfl, h1⟩
          | succ i => obtain ⟨v, q1, q2⟩ := ih (i := i) (by simpa using e); exact ⟨v, by simpa using q1, q2⟩
      obtain ⟨v, q1, q2⟩ := go h e1
      refine ⟨v, ?_, q2⟩
      unfold L2.start
      rw [List.getElem?_append_left (by simpa using (by omega : i < vs.length)), List.getElem?_map, q1]
      rfl
    · rw [List.getElem?_append_right (by simpa using Nat.le_of_not_lt hi), List.getElem?_replicate] at e
      split at e
      · cases e
      · cases e
  have noOwn : ∀ (i : Nat) (r : RV), (rs.map some ++ List.replicate (N.length - rs.length) none)[i]? = some (some r) → r.own = true → False := by
    intro i r e o
    obtain ⟨v, _, q⟩ := get i r e
    cases r with
    | ol xs => obtain ⟨p, ws, _, n, _, hp, _⟩ := q; rw [n] at hp; cases hp
    | od xs => obtain ⟨p, ws, _, n, _, hp, _⟩ := q; rw [n] at hp; cases hp
    | ot xs => obtain ⟨p, ws, _, n, _, hp, _⟩ := q; rw [n] at hp; cases hp
    | ob me x fs => obtain ⟨p, _, C, dx, ws, _, hp, n, _⟩ := q; rw [n] at hp; cases hp
    | _ => cases o
  refine ⟨Grow.refl c, ?_, get, fun i r p e o z => ?_, fun i j r r' p _ e _ o _ _ => (noOwn i r e o).elim,
    ⟨tb, fun i j p q me x fs r e _ _ _ _ => (noOwn i _ e rfl).elim, fun i j p p' q me me' x x' fs fs' _ e _ _ _ _ => (noOwn i _ e rfl).elim, fun i p q x fs e z hq => ?_, fun i x fs e => (noOwn i _ e rfl).elim⟩⟩
  rotate_left
  · obtain ⟨v, e1, q⟩ := get i r e
    rw [z] at e1
    cases e1
    cases r with
    | bl xs => obtain ⟨a, ws, e2, hp, _⟩ := q; cases e2; exact ⟨_, hp⟩
    | bd xs =>
      obtain ⟨a, ws, e2, hp, _⟩ := q
      cases e2
      rcases hp with hp | ⟨o, hp⟩
      · exact ⟨_, hp⟩
      · exact ⟨_, hp⟩
    | bt xs => obtain ⟨a, ws, e2, hp, _⟩ := q; cases e2; exact ⟨_, hp⟩
    | bo x fs => obtain ⟨a, e2, C, dx, ws, _, hp, _⟩ := q; cases e2; exact ⟨_, hp⟩
    | _ => cases o
  · obtain ⟨v, e1, a, ev, h⟩ := get i _ e
    rw [z] at e1
    subst ev
    cases e1
    obtain ⟨ws, hl⟩ := h.at hq
    exact ⟨_, hl⟩
  unfold L2.start
  simp [hl]
theorem fn_ok {P : Program} {w : World} {K : PySem.W.Frag} {mg : Str → Option Value} {base : Heap} {x qual : Str} {sd : Stmt} {fA : Addr} {fd : FuncData} {N ps : List Str} {k : Nat} {body : VEnv → Out} (F : Fun K x qual sd fA fd) (S : FnScope N ps (defScope sd))
    (hb : ∀ (cdv : Value) (A : Around) (outer : List PySem.Env) (s : Shared) (H : Hp) (E : XK), Room k (A.deeper (envOfC qual (defScope sd) s.heap.objs.size fA cdv)) → Takes (cxOf (L2.CX P w) P w K mg base N qual (defScope sd) fA cdv A outer s H E) (fun cls dx _ H' => E cls dx H') →
      PassesOwn (model P w) (A.deeper (envOfC qual (defScope sd) s.heap.objs.size fA cdv)) (envOfC qual (defScope sd) s.heap.objs.size fA cdv) (cxOf (L2.CX P w) P w K mg base N qual (defScope sd) fA cdv A outer s H E).xe →
      VSs ca (fun cls dx _ H' => E cls dx H') (cxOf (L2.CX P w) P w K mg base N qual (defScope sd) fA cdv A outer s H E) (defBody sd) body) : FnOk P w K mg base (L2.CX P w) (k + 1) fA fd ps (spV K ca ps.length (fnD N.length body)) := by
  refine F.okX S (fun vs H Q E h => h.1) (fun cdv A outer s H vs Q E hr h => ?_)
  obtain ⟨hl, G, rs, c, tb, pr, q⟩ := h
  obtain ⟨t, p, sn⟩ := hb cdv A outer s H E hr (takes_of rfl rfl rfl rfl) (passes_of rfl)
  refine ⟨t, p, sn { F := G, H := H } G _ _ H _ (start_ok N c tb pr) ?_⟩
  unfold fnD at q
  generalize hB : body (rs.map some ++ List.replicate (N.length - rs.length) none) = o at q ⊢
  cases o with
  | nx env => exact fun F' σ' H' s st => q F' H' .non st.gr .non
  | rt r => exact fun F' H' v g r => q F' H' v g r
  | rm o d => exact q.elim
  | rp x fs d => exact q.elim
  | ex c fs env => exact fun F' σ' H' cls dx s st x => q F' H' cls dx st.gr x
  | bk env => exact q.elim
  | ct env => exact q.elim
  | no => exact q.elim
theorem ve_call {fA : Addr} {fd : FuncData} {ps : List Str} {x : Str} {p : Pos} {k n : Nat} {G : List RV → Rs RV} {f : VEnv → Rs (List RV)} (Fo : FnOk X.prog X.w X.K X.mg X.base (L2.CX X.prog X.w) k fA fd ps (spV X.K ca n G)) (hr : Room k X.A) (hg : Gl X x) (hm : X.mg x = some (.ref fA)) (hk : PySem.W.keepIn X.K (.ref fA) = true) (hb : Binds X.K fd ps []) (tk : Takes X W)
    (ha : VA ca W X (e :: es) f) (hn : (e :: es).length = n := by rfl) (hdb : (x == ("__debug__" : Str)) = false := by decide) (he : starEach (e :: es) X.env = (false, eval e X.env) :: starEach es X.env := by rfl) (hpl : (backTo pos (starEach es X.env)).any (·.1) = false := by rfl) :
    VE ca W X (.Call (.Name x p) (e :: es) [] pos) (cA (fun rs => if rs.length = n then G (rs.map RV.arg) else .no) f) := by
  obtain ⟨t, pa, sa⟩ := ha
  refine ⟨_, pe_callSD Fo hr hg hm hk hb .nil (fun σ => passAt tk σ) pa hdb he hpl, fun B F env σ H Q st q => ?_⟩
  show t σ H fun vs H1 => spV X.K ca n G (vs ++ []) H1 Q (WE W σ)
  refine seqA (PostE X.K ca W σ F H Q) sa st q (fun _ _ h => h) (fun h => h) fun rs F1 H1 vs p1 g1 q1 => ?_
  rw [List.append_nil]
  split at p1
  · rename_i hl
    obtain ⟨F2, g2, s2, q2⟩ := args_go g1 (Same.refl _) q1
    refine ⟨by rw [Paired.length q1, hl], F2, _, g2.cfg, st.rg.tb.grow g2, q2, ?_⟩
    cases e1 : G (rs.map RV.arg) with
    | ok r => rw [e1] at p1; exact fun G' H' v gg rr => p1 G' H' v (g2.trans gg) (rr.older g2.hh)
    | ex c fs => rw [e1] at p1; exact fun G' H' cls dx gg x => p1 G' H' cls dx (g2.trans gg) x
    | no => rw [e1] at p1; exact p1
  · exact p1.elim
end
end VL
namespace VL
open PySem PySem.Spec PyProof.Rows L2
def RV.lv : RV → Option (List PyData)
  | .d (.list xs) => some xs
  | .ol xs => some xs
  | .bl xs => some xs
  | _ => none
def RV.qv : RV → Option (List PyData)
  | .sc ns => some (ns.map .int)
  | r => r.lv
def RV.tv : RV → Option (List PyData)
  | .d (.tuple xs) => some xs
  | _ => none
def RV.data : RV → Option PyData
  | .d x => some x
  | .ol xs => some (.list xs)
  | .bl xs => some (.list xs)
  | .sc ns => some (.list (ns.map .int))
  | _ => none
section
variable {K : PySem.W.Frag} {ca : CA} {H0 F H : Hp} {v : V} {r : RV} {xs : List PyData}
theorem lv_ok (s : Same F H) (h : RVok K H0 F H v r) (e : r.lv = some xs) : ∃ p vs, v = .ref p ∧ H p = some (.lst vs) ∧ DqA K F vs xs := by
  cases r with
  | d x =>
    cases x with
    | list ys => cases e; cases h with
      | lst h1 h2 => exact ⟨_, _, rfl, s _ _ h1, h2⟩
    | _ => cases e
  | ol ys => cases e; obtain ⟨p, vs, e1, _, _, hp, q⟩ := h; exact ⟨p, vs, e1, hp, q⟩
  | bl ys => cases e; obtain ⟨p, vs, e1, hp, q⟩ := h; exact ⟨p, vs, e1, hp, q⟩
  | _ => cases e
theorem qv_ok (s : Same F H) (h : RVok K H0 F H v r) (e : r.qv = some xs) : ∃ p vs, v = .ref p ∧ SqL K H p vs ∧ DqA K F vs xs := by
  cases r with
  | sc ns => cases e; obtain ⟨a, e1, q⟩ := h; exact ⟨a, _, e1, s.seq q, DqA.of_ints ns⟩
  | d x => obtain ⟨p, vs, e1, hp, q⟩ := lv_ok s h e; exact ⟨p, vs, e1, SqL.of hp, q⟩
  | ol x => obtain ⟨p, vs, e1, hp, q⟩ := lv_ok s h e; exact ⟨p, vs, e1, SqL.of hp, q⟩
  | bl x => obtain ⟨p, vs, e1, hp, q⟩ := lv_ok s h e; exact ⟨p, vs, e1, SqL.of hp, q⟩
  | _ => cases e
theorem tv_ok (s : Same F H) (h : RVok K H0 F H v r) (e : r.tv = some xs) : ∃ p vs, v = .ref p ∧ SqT K H p vs ∧ SqN K F p vs ∧ DqA K F vs xs := by
  cases r with
  | d x =>
    cases x with
    | tuple ys => cases e; cases h with
      | tup h1 h2 => exact ⟨_, _, rfl, same_seqT s h1.1, h1, h2⟩
    | _ => cases e
  | _ => cases e
theorem data_ok {x : PyData} (s : Same F H) (h : RVok K H0 F H v r) (e : r.data = some x) : Dp K H v x := by
  cases r with
  | d y => cases e; exact Dq.dp x v (Dq.mono s x v h)
  | ol ys => cases e; obtain ⟨p, vs, e1, _, _, hp, q⟩ := h; subst e1; exact .lst (SqL.of hp) (DqA.dp _ _ (DqA.mono s _ _ q))
  | bl ys => cases e; obtain ⟨p, vs, e1, hp, q⟩ := h; subst e1; exact .lst (SqL.of hp) (DqA.dp _ _ (DqA.mono s _ _ q))
  | sc ns => cases e; obtain ⟨a, e1, q⟩ := h; subst e1; exact .lst (s.seq q) (DqA.dp _ _ (DqA.of_ints (F := H) ns))
  | _ => cases e
theorem atI_dq {vs : List V} {i : Int} {d : PyData} (h : DqA K F vs xs) (e : atI xs i = some d) : ∃ w, atI vs i = some w ∧ Dq K F w d := by
  unfold atI at e ⊢
  rw [h.length]
  cases z : ixN xs.length i with
  | none => rw [z] at e; cases e
  | some j => rw [z] at e; exact h.get e
instance dCMul (i j : Int) : Decidable (CMul i j) := inferInstanceAs (Decidable ((-(2 ^ 64) < i ∧ i < 2 ^ 64) ∨ (-(2 ^ 64) < j ∧ j < 2 ^ 64)))
instance dCDiv (i j : Int) : Decidable (CDiv i j) := inferInstanceAs (Decidable (0 < j ∧ j < 1073741824))
instance dCPow (i j : Int) : Decidable (CPow i j) := inferInstanceAs (Decidable (0 ≤ j ∧ j ≤ 1000000 ∧ i.natAbs < 2 ^ 64))
def RV.i2 (f : Int → Int → Rs RV) : RV → RV → Rs RV
  | .d (.int i), .d (.int j) => f i j
  | _, _ => .no
def okI (i : Int) : Rs RV := .ok (.d (.int i))
def okB (b : Bool) : Rs RV := .ok (.d (.bool b))
theorem snd_i2 {C : Int → Int → Prop} [∀ i j, Decidable (C i j)] {g : Int → Int → Int} : Op2S K ca (rI C fun i j => .int (g i j)) (RV.i2 fun i j => if C i j then okI (g i j) else .no) := by
  intro W σ F0 H0 F H v1 v2 a b Q gr h1 h2 p
  cases a with
  | d x => cases b with
    | d y => cases x with
      | int i => cases y with
        | int j =>
          cases h1; cases h2
          simp only [RV.i2] at p
          split at p
          · rename_i c; exact ⟨i, j, rfl, rfl, c, p F H _ gr (.int _)⟩
          · exact p.elim
        | _ => exact p.elim
      | _ => exact p.elim
    | _ => cases x <;> exact p.elim
  | _ => exact p.elim
theorem snd_i20 {g : Int → Int → V} {g' : Int → Int → PyData} (hg : ∀ (F : Hp) i j, Dq K F (g i j) (g' i j)) : Op2S K ca (rI0 g) (RV.i2 fun i j => .ok (.d (g' i j))) := by
  intro W σ F0 H0 F H v1 v2 a b Q gr h1 h2 p
  cases a with
  | d x => cases b with
    | d y => cases x with
      | int i => cases y with
        | int j => cases h1; cases h2; exact ⟨i, j, rfl, rfl, p F H _ gr (hg _ _ _)⟩
        | _ => exact p.elim
      | _ => exact p.elim
    | _ => cases x <;> exact p.elim
  | _ => exact p.elim
def gSub := RV.i2 fun i j => okI (i - j)
def gMul := RV.i2 fun i j => if i.natAbs < 18446744073709551616 ∨ j.natAbs < 18446744073709551616 then okI (i * j) else .no
def gMod := RV.i2 fun i j => if 0 < j then okI (i % j) else .no
def gDiv := RV.i2 fun i j => if 0 < j ∧ j.natAbs < 1073741824 then okI (i / j) else .no
def gPow := RV.i2 fun i j => if 0 ≤ j ∧ j ≤ 1000000 ∧ i.natAbs < 2 ^ 64 then okI (i ^ j.toNat) else .no
def gLt := RV.i2 fun i j => okB (decide (i < j))
def gLe := RV.i2 fun i j => okB (decide (i ≤ j))
def gGt := RV.i2 fun i j => okB (decide (j < i))
def gGe := RV.i2 fun i j => okB (decide (j ≤ i))
theorem s_sub : Op2S K ca (rI0 fun i j => .int (i - j)) gSub := snd_i20 fun _ _ _ => .int _
theorem rI_weak {C C' : Int → Int → Prop} {g : Int → Int → V} {G : RV → RV → Rs RV} (h : ∀ i j, C i j → C' i j) (s : Op2S K ca (rI C g) G) : Op2S K ca (rI C' g) G := by
  intro W σ F0 H0 F H v1 v2 a b Q gr h1 h2 p
  obtain ⟨i, j, e1, e2, c, q⟩ := s W σ F0 H0 F H v1 v2 a b Q gr h1 h2 p
  exact ⟨i, j, e1, e2, h i j c, q⟩
theorem s_div : Op2S K ca (rI CDiv fun i j => .int (i / j)) gDiv :=
  rI_weak (C := fun i j => 0 < j ∧ j.natAbs < 1073741824) (fun i j h => by unfold CDiv; omega) snd_i2
theorem s_mul : Op2S K ca (rI CMul fun i j => .int (i * j)) gMul :=
  rI_weak (C := fun i j => i.natAbs < 18446744073709551616 ∨ j.natAbs < 18446744073709551616) (fun i j h => by unfold CMul; omega) snd_i2
theorem s_mod : Op2S K ca (rI (fun _ j => 0 < j) fun i j => .int (i % j)) gMod := snd_i2
theorem s_pow : Op2S K ca (rI CPow fun i j => .int (i ^ j.toNat)) gPow := by
  exact snd_i2 (C := CPow)
theorem s_lt : Op2S K ca (rI0 fun i j => .bl (decide (i < j))) gLt := snd_i20 fun _ _ _ => .bl _
theorem s_ge : Op2S K ca (rI0 fun i j => .bl (decide (j ≤ i))) gGe := snd_i20 fun _ _ _ => .bl _
def gNeg : RV → Rs RV
  | .d (.int i) => okI (-i)
  | _ => .no
theorem s_neg : Op1S K ca (rU fun i => .int (-i)) gNeg := by
  intro W σ F0 H0 F H v a Q gr h p
  cases a with
  | d x => cases x with
    | int i => cases h; exact ⟨i, rfl, p F H _ gr (.int _)⟩
    | _ => exact p.elim
  | _ => exact p.elim
def rOr (r r' : R2) : R2 := fun x y H Q => r x y H Q ∨ r' x y H Q
theorem op_or' {X : Cx} {f : Value → Value → Sem Value} {r r' : R2} (h : OpR X f r) (h' : OpR X f r') : OpR X f (rOr r r') := by
  intro pins s σ H x y v u Q I rx ry q
  rcases q with q | q
  · exact h pins s σ H x y v u Q I rx ry q
  · exact h' pins s σ H x y v u Q I rx ry q
abbrev rStr : R2 := fun x y H Q => ∃ i j, x = .str i ∧ y = .str j ∧ i.length + j.length ≤ sizeLine ∧ Q (.str (i ++ j)) H
def rCatN (K : PySem.W.Frag) : R2 := fun x y H Q => ∃ a b xs ys, x = .ref a ∧ y = .ref b ∧ SqT K H a xs ∧ SqT K H b ys ∧ xs.length + ys.length ≤ sizeLine ∧
  (xs = [] → Q (.ref b) H) ∧ (xs ≠ [] → ys = [] → Q (.ref a) H) ∧ (xs ≠ [] → ys ≠ [] → ∀ (o : Obj) p, o.dict = none → H p = none → Q (.ref p) (upd H p (.frz o (.tup (xs ++ ys)))))
theorem op_catN {X : Cx} : OpR X (binaryOp .Add) (rCatN X.K) := by
  intro pins s σ H x y v u Q I rx ry h
  obtain ⟨a, b, xs, ys, rfl, rfl, ha, hb, hz, k0, k1, k2⟩ := h
  cases rx
  cases ry
  obtain ⟨is1, r1, t1, _⟩ := I.tuple ha
  obtain ⟨is2, r2, t2, _⟩ := I.tuple hb
  by_cases hx : xs = []
  · subst hx
    cases r1
    exact cat_tup0 t1 t2 ⟨.ref b, H, I, rfl, k0 rfl⟩
  · refine HT.cat_tup t1 t2 (fun z => hx (r1.nil_iff.mp z)) (fun z => ⟨.ref a, H, I, rfl, k1 hx (r2.nil_iff.mp z)⟩) (fun z => ?_) (by rw [← r1.length, ← r2.length]; exact hz)
    have nn : H s.heap.objs.size = none := I.hok.fresh (Nat.le_refl _)
    refine ⟨.ref s.heap.objs.size, _, I.laid (t' := s.toks) (o := .frz _ (.tup (xs ++ ys))) (fun _ _ q => Heap.get?_push_of_some _ q) (Nat.le_refl _) ⟨Heap.get?_push_size _ rfl, ?_⟩, rfl, k2 hx (fun w => z (r2.nil_iff.mpr w)) _ _ rfl nn⟩
    exact ⟨by rw [List.length_append]; exact hz, _, r1.append r2, _, Heap.get?_push_size _ rfl, rfl, _, rfl⟩
def rAddA (K : PySem.W.Frag) : R2 := rOr (rI0 fun i j => .int (i + j)) (rOr rStr (rOr rCat (rCatN K)))
theorem op_addA {X : Cx} : OpR X (binaryOp .Add) (rAddA X.K) := op_or' op_add (op_or' op_add_str (op_or' op_cat op_catN))
def gAdd (a b : RV) : Rs RV := match a, b with
  | .d (.int i), .d (.int j) => okI (i + j)
  | .d (.str x), .d (.str y) => if x.length + y.length ≤ 1000000 then .ok (.d (.str (x ++ y))) else .no
  | .d (.tuple xs), .d (.tuple ys) => if xs.length + ys.length ≤ 1000000 then .ok (.d (.tuple (xs ++ ys))) else .no
  | a, b => match a.lv, b.lv with
    | some xs, some ys => if xs.length + ys.length ≤ 1000000 then .ok (.ol (xs ++ ys)) else .no
    | _, _ => .no
theorem s_add : Op2S K ca (rAddA K) gAdd := by
  intro W σ F0 H0 F H v1 v2 a b Q gr h1 h2 p
  unfold gAdd at p
  split at p
  · cases h1; cases h2; exact .inl ⟨_, _, rfl, rfl, p F H _ gr (.int _)⟩
  · cases h1; cases h2
    split at p
    · rename_i hz
      exact .inr (.inl ⟨_, _, rfl, rfl, Nat.le_of_lt (million hz), p F H _ gr (.str _)⟩)
    · exact p.elim
  · split at p
    · rename_i xs ys hz
      obtain ⟨p1, vs, rfl, a1, a1', q1⟩ := tv_ok gr.cfg.sub h1 rfl
      obtain ⟨p2, ws, rfl, a2, a2', q2⟩ := tv_ok gr.cfg.sub h2 rfl
      refine .inr (.inr (.inr ⟨p1, p2, vs, ws, rfl, rfl, a1, a2, ?_, fun e => ?_, fun e e' => ?_, fun e e' o l no hl => ?_⟩))
      · rw [q1.length, q2.length]; exact Nat.le_of_lt (million hz)
      · subst e
        have : xs = [] := by have := q1.length; cases xs with
          | nil => rfl
          | cons _ _ => simp at this
        subst this
        exact p F H _ gr (.tup a2' q2)
      · subst e'
        have : ys = [] := by have := q2.length; cases ys with
          | nil => rfl
          | cons _ _ => simp at this
        subst this
        exact p F H _ gr (by rw [List.append_nil]; exact .tup a1' q1)
      · have g2 := Grow.newF gr.cfg (.frz o (.tup (vs ++ ws))) hl
        exact p _ _ _ (gr.trans g2) (.tup (.frz no upd_same) ((DqA.mono g2.ff _ _ q1).append (DqA.mono g2.ff _ _ q2)))
    · exact p.elim
  · split at p
    · rename_i xs ys e1 e2
      split at p
      · rename_i hz
        obtain ⟨p1, vs, rfl, a1, q1⟩ := lv_ok gr.cfg.sub h1 e1
        obtain ⟨p2, ws, rfl, a2, q2⟩ := lv_ok gr.cfg.sub h2 e2
        refine .inr (.inr (.inl ⟨p1, p2, vs, ws, rfl, rfl, a1, a2, ?_, fun l hl => ?_⟩))
        · rw [q1.length, q2.length]; exact Nat.le_of_lt (million hz)
        · have g2 := Grow.newO gr.cfg (.lst (vs ++ ws)) hl (fun _ z => by cases z)
          exact p _ _ _ (gr.trans g2) ⟨l, _, rfl, none_n gr.hh hl, same_none gr.cfg.sub hl, upd_same, q1.append q2⟩
      · exact p.elim
    · exact p.elim
def gEq (a b : RV) : Rs RV := (rsO a.data).bind fun x => (rsO b.data).bind fun y => if SeqAt.shaped x = true ∧ SeqAt.shaped y = true then okB (PyData.eqv x y) else .no
def gNe (a b : RV) : Rs RV := (rsO a.data).bind fun x => (rsO b.data).bind fun y => if SeqAt.shaped x = true ∧ SeqAt.shaped y = true then okB (!PyData.eqv x y) else .no
theorem s_eq : Op2S K ca (rEqD K) gEq := by
  intro W σ F0 H0 F H v1 v2 a b Q gr h1 h2 p
  unfold gEq at p
  cases e1 : a.data with
  | none => rw [e1] at p; exact p.elim
  | some x => cases e2 : b.data with
    | none => rw [e1, e2] at p; exact p.elim
    | some y =>
      rw [e1, e2] at p
      simp only [rsO_some, Rs.bind_ok] at p
      split at p
      · rename_i s; exact ⟨x, y, data_ok gr.cfg.sub h1 e1, data_ok gr.cfg.sub h2 e2, s.1, s.2, p F H _ gr (.bl _)⟩
      · exact p.elim
theorem s_ne : Op2S K ca (rNeD K) gNe := by
  intro W σ F0 H0 F H v1 v2 a b Q gr h1 h2 p
  unfold gNe at p
  cases e1 : a.data with
  | none => rw [e1] at p; exact p.elim
  | some x => cases e2 : b.data with
    | none => rw [e1, e2] at p; exact p.elim
    | some y =>
      rw [e1, e2] at p
      simp only [rsO_some, Rs.bind_ok] at p
      split at p
      · rename_i s; exact ⟨x, y, data_ok gr.cfg.sub h1 e1, data_ok gr.cfg.sub h2 e2, s.1, s.2, p F H _ gr (.bl _)⟩
      · exact p.elim
def rNotInT (K : PySem.W.Frag) : R2 := fun x y H Q => ∃ d ds, Dp K H x d ∧ Dp K H y (.tuple ds) ∧ SeqAt.shaped d = true ∧ SeqAt.shaped (.tuple ds) = true ∧ Q (.bl (!ds.any fun z => PyData.eqv z d)) H
theorem op_notInT {X : Cx} (hu : X.A.units + 65 < cLine) : OpR X (compareOp .NotIn) (rNotInT X.K) := by
  intro pins s σ H x y v u Q I rx ry h
  obtain ⟨d, ds, hd, he, sd, se, q⟩ := h
  obtain ⟨as, r1⟩ := Dp.reads I d x v hd rx
  obtain ⟨bs, r2⟩ := Dp.reads I (.tuple ds) y u he ry
  exact SeqAt.notIn_tuple_reads r2 r1 (SeqAt.canLay_of_shaped se) (SeqAt.canLay_of_shaped sd) (PyProof.Rows.room_in_shaped sd hu) ⟨.bl _, H, I, rfl, q⟩
abbrev rNSubS : R2 := fun x y H Q => ∃ i j, x = .str i ∧ y = .str j ∧ Q (.bl (!(!(Builtin.Str.occurrences j i 0 j.length 1).isEmpty))) H
def rNotInA (K : PySem.W.Frag) : R2 := rOr (rNotInD K) (rOr (rNotInT K) rNSubS)
theorem op_notInA {X : Cx} (hu : X.A.units + 65 < cLine) : OpR X (compareOp .NotIn) (rNotInA X.K) := op_or' (op_notInD hu) (op_or' (op_notInT hu) op_notin_str)
theorem hu65 {A : Around} {k : Nat} (hr : Room k A) : A.units + 65 < cLine := by have := hr.un; omega
def gInB (a b : RV) : Rs Bool := match a, b with
  | .d (.str x), .d (.str y) => .ok (!(Builtin.Str.occurrences y x 0 y.length 1).isEmpty)
  | a, .d (.tuple ds) => (rsO a.data).bind fun x => if SeqAt.shaped x = true ∧ SeqAt.shaped (.tuple ds) = true then .ok (ds.any fun z => PyData.eqv z x) else .no
  | a, b => (rsO a.data).bind fun x => (rsO b.data).bind fun y => match y with
    | .list ds => if SeqAt.shaped x = true ∧ SeqAt.shaped (.list ds) = true then .ok (ds.any fun z => PyData.eqv z x) else .no
    | _ => .no
def gIn (a b : RV) : Rs RV := (gInB a b).bind okB
def gNotIn (a b : RV) : Rs RV := (gInB a b).bind fun k => okB (!k)
theorem gInB_sound {v1 v2 : V} {a b : RV} {α : Type} {P : Rs α → Prop} {k : Bool → Rs α} (s : Same F H) (h1 : RVok K H0 F H v1 a) (h2 : RVok K H0 F H v2 b) (hn : ¬ P .no) (p : P ((gInB a b).bind k)) :
    (∃ d ds, Dp K H v1 d ∧ Dp K H v2 (.list ds) ∧ SeqAt.shaped d = true ∧ SeqAt.shaped (.list ds) = true ∧ P (k (ds.any fun z => PyData.eqv z d))) ∨
    (∃ d ds, Dp K H v1 d ∧ Dp K H v2 (.tuple ds) ∧ SeqAt.shaped d = true ∧ SeqAt.shaped (.tuple ds) = true ∧ P (k (ds.any fun z => PyData.eqv z d))) ∨
    ∃ i j, v1 = .str i ∧ v2 = .str j ∧ P (k (!(Builtin.Str.occurrences j i 0 j.length 1).isEmpty)) := by
  unfold gInB at p
  split at p
  · cases h1; cases h2; exact .inr (.inr ⟨_, _, rfl, rfl, p⟩)
  · rename_i ds
    cases e1 : a.data with
    | none => rw [e1] at p; exact absurd p hn
    | some x =>
      rw [e1] at p
      simp only [rsO_some, Rs.bind_ok] at p
      split at p
      · rename_i z; exact .inr (.inl ⟨x, ds, data_ok s h1 e1, data_ok s h2 rfl, z.1, z.2, p⟩)
      · exact absurd p hn
  · cases e1 : a.data with
    | none => rw [e1] at p; exact absurd p hn
    | some x => cases e2 : b.data with
      | none => rw [e1, e2] at p; exact absurd p hn
      | some y =>
        rw [e1, e2] at p
        simp only [rsO_some, Rs.bind_ok] at p
        split at p
        · split at p
          · rename_i z; exact .inl ⟨x, _, data_ok s h1 e1, data_ok s h2 e2, z.1, z.2, p⟩
          · exact absurd p hn
        · exact absurd p hn
theorem s_notIn : Op2S K ca (rNotInA K) gNotIn := by
  intro W σ F0 H0 F H v1 v2 a b Q gr h1 h2 p
  rcases gInB_sound (P := PostE K ca W σ F0 H0 Q) gr.cfg.sub h1 h2 (fun h => h) p with ⟨d, ds, q1, q2, q3, q4, q5⟩ | ⟨d, ds, q1, q2, q3, q4, q5⟩ | ⟨i, j, e1, e2, q5⟩
  · exact .inl ⟨d, ds, q1, q2, q3, q4, q5 F H _ gr (.bl _)⟩
  · exact .inr (.inl ⟨d, ds, q1, q2, q3, q4, q5 F H _ gr (.bl _)⟩)
  · exact .inr (.inr ⟨i, j, e1, e2, q5 F H _ gr (.bl _)⟩)
def isNone : RV → Bool
  | .d .none => true
  | _ => false
def gIs (a b : RV) : Rs RV := match b with
  | .d .none => okB (isNone a)
  | _ => .no
def gIsNot (a b : RV) : Rs RV := match b with
  | .d .none => okB (!isNone a)
  | _ => .no
def RV.sq (r : RV) : Option (List PyData) := match r with
  | .d (.tuple xs) => some xs
  | r => r.qv
def gIx (a b : RV) : Rs RV := match b with
  | .d (.int i) => (match a with
    | .d (.str z) => if z.length ≤ 1000000 then (rsO (atI z.cps.toList i)).bind fun c => .ok (.d (.str ⟨#[c]⟩)) else .no
    | a => (rsO a.sq).bind fun xs => (rsO (atI xs i)).bind fun d => .ok (.d d))
  | _ => .no
theorem s_ix : Op2S K ca (rIx K) gIx := by
  intro W σ F0 H0 F H v1 v2 a b Q gr h1 h2 p
  unfold gIx at p
  split at p
  · rename_i i
    cases h2
    split at p
    · rename_i z
      cases h1
      split at p
      · rename_i hz
        cases e : atI z.cps.toList i with
        | none => rw [e] at p; exact p.elim
        | some c => rw [e] at p; exact .inr (.inr ⟨z, i, c, rfl, rfl, Nat.le_of_lt (million hz), e, p F H _ gr (.str _)⟩)
      · exact p.elim
    · cases e : a.sq with
      | none => rw [e] at p; exact p.elim
      | some xs =>
        rw [e] at p
        simp only [rsO_some, Rs.bind_ok] at p
        cases e2 : atI xs i with
        | none => rw [e2] at p; exact p.elim
        | some d =>
          rw [e2] at p
          by_cases ht : a.tv = some xs
          · obtain ⟨p1, vs, rfl, a1, _, q1⟩ := tv_ok gr.cfg.sub h1 ht
            obtain ⟨w, e3, q3⟩ := atI_dq q1 e2
            exact .inr (.inl ⟨p1, vs, i, w, rfl, rfl, a1, e3, p F H _ gr q3⟩)
          · have eq : a.qv = some xs := by
              unfold RV.sq at e
              split at e
              · exact absurd (by exact e) ht
              · exact e
            obtain ⟨p1, vs, rfl, a1, q1⟩ := qv_ok gr.cfg.sub h1 eq
            obtain ⟨w, e3, q3⟩ := atI_dq q1 e2
            exact .inl ⟨p1, vs, i, w, rfl, rfl, a1, e3, p F H _ gr q3⟩
  · exact p.elim
def cutL {α : Type} (xs : List α) (lo hi : Option Int) : List α := (xs.drop (HT.sIx xs.length 0 lo)).take (HT.sIx xs.length xs.length hi - HT.sIx xs.length 0 lo)
theorem cut_dq {vs : List V} (h : DqA K F vs xs) (lo hi : Option Int) : DqA K F (cutV vs lo hi) (cutL xs lo hi) := by
  unfold cutV cutL
  rw [h.length]
  exact (h.drop _).take _
def gSl (a : RV) (lo hi : Option Int) : Rs RV := match a with
  | .d (.str z) => if z.length ≤ 1000000 then .ok (.d (.str (cutS z lo hi))) else .no
  | .d (.tuple xs) => .ok (.d (.tuple (cutL xs lo hi)))
  | a => (rsO a.qv).bind fun xs => .ok (.ol (cutL xs lo hi))
def rSlN (K : PySem.W.Frag) : V → Option Int → Option Int → Hp → VK → Prop := fun x lo hi H Q => ∃ a xs, x = .ref a ∧ SqT K H a xs ∧
  (HT.sIx xs.length 0 lo = 0 ∧ HT.sIx xs.length xs.length hi = xs.length → Q (.ref a) H) ∧ (¬ (HT.sIx xs.length 0 lo = 0 ∧ HT.sIx xs.length xs.length hi = xs.length) → ∀ (o : Obj) p, o.dict = none → H p = none → Q (.ref p) (upd H p (.frz o (.tup (cutV xs lo hi)))))
theorem sl_tupN {X : Cx} : SlR X (rSlN X.K) := by
  intro pins s σ H x v vl vu lo hi sl Q I rx hs pl pu h
  obtain ⟨a, xs, rfl, hx, k1, k2⟩ := h
  cases rx
  obtain ⟨its, r, ht, hz⟩ := I.tuple hx
  have hl : its.toArray.size = xs.length := by rw [List.size_toArray]; exact r.length.symm
  refine ⟨"tuple", _, PyProof.Rows.slot_tuple_getitem.lookup, ht.typeIs, ?_⟩
  by_cases hw : HT.sIx xs.length 0 lo = 0 ∧ HT.sIx xs.length xs.length hi = xs.length
  · exact getItem_tuple_whole ht hs pl pu (by rw [hl]; exact hw) ⟨.ref a, H, I, rfl, k1 hw⟩
  · refine HT.getItem_tuple_cut ht hs pl pu (by rw [hl]; exact hw) ?_ (by rw [hl]; exact hz)
    rw [hl]
    have nn : H s.heap.objs.size = none := I.hok.fresh (Nat.le_refl _)
    refine ⟨.ref s.heap.objs.size, _, I.laid (t' := s.toks) (o := .frz _ (.tup (cutV xs lo hi))) (fun _ _ q => Heap.get?_push_of_some _ q) (Nat.le_refl _) ⟨Heap.get?_push_size _ rfl, ?_⟩, rfl, k2 hw _ _ rfl nn⟩
    exact ⟨Nat.le_trans (cutV_length xs lo hi) hz, _, (r.drop (HT.sIx xs.length 0 lo)).take (HT.sIx xs.length xs.length hi - HT.sIx xs.length 0 lo), _, Heap.get?_push_size _ rfl, rfl, _, rfl⟩
def rSlAll (K : PySem.W.Frag) : V → Option Int → Option Int → Hp → VK → Prop := fun x lo hi H Q => rSlS x lo hi H Q ∨ (rSlN K x lo hi H Q ∨ rSlL K x lo hi H Q)
theorem sl_all {X : Cx} : SlR X (rSlAll X.K) := SlR.or sl_str (SlR.or sl_tupN sl_list)
theorem s_sl {W : WX} {σ : L2.St} {F0 H0' : Hp} {lo hi : Option Int} {Q : VK} (gr : Grow F0 H0' F H) (h : RVok K H0' F H v r) (p : PostE K ca W σ F0 H0' Q (gSl r lo hi)) : rSlAll K v lo hi H Q := by
  unfold gSl at p
  split at p
  · cases h
    split at p
    · rename_i hz
      exact .inl ⟨_, rfl, Nat.le_of_lt (million hz), p F H _ gr (.str _)⟩
    · exact p.elim
  · rename_i xs
    obtain ⟨p1, vs, rfl, a1, a2, q1⟩ := tv_ok gr.cfg.sub h rfl
    refine .inr (.inl ⟨p1, vs, rfl, a1, fun e => ?_, fun e o l no hl => ?_⟩)
    · have ew : cutL xs lo hi = xs := by
        unfold cutL
        rw [q1.length] at e
        rw [e.1, e.2]
        simp
      exact p F H _ gr (by rw [ew]; exact .tup a2 q1)
    · have g2 := Grow.newF gr.cfg (.frz o (.tup (cutV vs lo hi))) hl
      exact p _ _ _ (gr.trans g2) (.tup (.frz no upd_same) (DqA.mono g2.ff _ _ (cut_dq q1 lo hi)))
  · cases e : r.qv with
    | none => rw [e] at p; exact p.elim
    | some xs =>
      rw [e] at p
      obtain ⟨p1, vs, rfl, a1, q1⟩ := qv_ok gr.cfg.sub h e
      refine .inr (.inr ⟨p1, vs, rfl, a1, fun l hl => ?_⟩)
      have g2 := Grow.newO gr.cfg (.lst (cutV vs lo hi)) hl (fun _ z => by cases z)
      exact p _ _ _ (gr.trans g2) ⟨l, _, rfl, none_n gr.hh hl, same_none gr.cfg.sub hl, upd_same, cut_dq q1 lo hi⟩
end
end VL
namespace VL
open PySem PySem.Spec PyProof.Rows L2
section
variable {K : PySem.W.Frag} {ca : CA}
theorem pr1 {P : V → RV → Prop} {vs : List V} {r : RV} (h : Paired P vs [r]) : ∃ v, vs = [v] ∧ P v r := by
  cases h with
  | cons h1 h2 => cases h2; exact ⟨_, rfl, h1⟩
theorem pr2 {P : V → RV → Prop} {vs : List V} {r r' : RV} (h : Paired P vs [r, r']) : ∃ v w, vs = [v, w] ∧ P v r ∧ P w r' := by
  cases h with
  | cons h1 h2 => cases h2 with
    | cons h3 h4 => cases h4; exact ⟨_, _, rfl, h1, h3⟩
theorem sq_ok {H0 F H : Hp} {v : V} {r : RV} {xs : List PyData} (s : Same F H) (h : RVok K H0 F H v r) (e : r.sq = some xs) : ∃ p vs, v = .ref p ∧ (SqL K H p vs ∨ SqT K H p vs) ∧ DqA K F vs xs := by
  by_cases ht : r.tv = some xs
  · obtain ⟨p1, vs, e1, a1, _, q1⟩ := tv_ok s h ht
    exact ⟨p1, vs, e1, .inr a1, q1⟩
  · have eq : r.qv = some xs := by
      unfold RV.sq at e
      split at e
      · exact absurd (by exact e) ht
      · exact e
    obtain ⟨p1, vs, e1, a1, q1⟩ := qv_ok s h eq
    exact ⟨p1, vs, e1, .inl a1, q1⟩
def gLen : List RV → Rs RV
  | [.d (.str z)] => if z.length ≤ 1000000 then okI z.length else .no
  | [.bd kvs] => okI kvs.length
  | [.od kvs] => okI kvs.length
  | [r] => (rsO r.sq).bind fun xs => okI xs.length
  | _ => .no
abbrev rLenS (K : PySem.W.Frag) : List V → Hp → VK → Prop := fun xs H Q => ∃ p ys, xs = [.ref p] ∧ (SqL K H p ys ∨ SqT K H p ys) ∧ Q (.int ys.length) H
abbrev rLenT : List V → Hp → VK → Prop := fun xs H Q => ∃ z, xs = [.str z] ∧ z.length ≤ sizeLine ∧ Q (.int z.length) H
abbrev rLenD : List V → Hp → VK → Prop := fun xs H Q => ∃ p kvs, xs = [.ref p] ∧ Rd H p (.dK kvs) ∧ Q (.int kvs.length) H
theorem call_lenD' {X : Cx} : CallR X (.builtin "len") rLenD := by
  intro pins s σ H xs us Q I r h
  obtain ⟨a, kvs, rfl, ha, q⟩ := h
  obtain ⟨u, rfl, ru⟩ := vals1 r
  cases ru
  exact d_len I ha fun t s' I' => ⟨.int kvs.length, H, I', ⟨t, rfl⟩, q⟩
theorem call_lenA {X : Cx} : CallR X (.builtin "len") (fun xs H Q => rLenS X.K xs H Q ∨ (rLenT xs H Q ∨ rLenD xs H Q)) := CallR.or call_len_seq (CallR.or call_len_str call_lenD')
theorem KD.length {κ : Type} {F : Hp} : ∀ {a : List (κ × V)} {b : List (κ × PyData)}, KD K F a b → a.length = b.length := fun h => Paired.length h
theorem c_len : CaS K ca (fun xs H Q => rLenS K xs H Q ∨ (rLenT xs H Q ∨ rLenD xs H Q)) gLen := by
  intro W σ F0 H0 F H vs as Q gr h p
  unfold gLen at p
  split at p
  · obtain ⟨v, rfl, hx⟩ := pr1 h
    cases hx
    split at p
    · rename_i hz; exact .inr (.inl ⟨_, rfl, Nat.le_of_lt (million hz), p F H _ gr (.int _)⟩)
    · exact p.elim
  · obtain ⟨v, rfl, q, ks, rfl, hp, kd⟩ := pr1 h
    exact .inr (.inr ⟨q, ks, rfl, hp, by rw [kd.length]; exact p F H _ gr (.int _)⟩)
  · obtain ⟨v, rfl, q, ks, rfl, _, _, hp, kd⟩ := pr1 h
    exact .inr (.inr ⟨q, ks, rfl, .inl hp, by rw [kd.length]; exact p F H _ gr (.int _)⟩)
  · rename_i r _ _ _
    obtain ⟨v, rfl, hx⟩ := pr1 h
    cases e : r.sq with
    | none => rw [e] at p; exact p.elim
    | some xs =>
      rw [e] at p
      obtain ⟨q, ws, rfl, hq, dq⟩ := sq_ok gr.cfg.sub hx e
      exact .inl ⟨q, ws, rfl, hq, by rw [dq.length]; exact p F H _ gr (.int _)⟩
  · exact p.elim
def gTupleC : List RV → Rs RV
  | [r] => (match r.tv with
    | some xs => .ok (.d (.tuple xs))
    | none => (rsO r.qv).bind fun xs => .ok (.d (.tuple xs)))
  | _ => .no
def rTupN (K : PySem.W.Frag) : List V → Hp → VK → Prop := fun xs H Q => ∃ p ys, xs = [.ref p] ∧ ((SqL K H p ys ∧ ∀ (o : Obj) l, o.dict = none → H l = none → Q (.ref l) (upd H l (.frz o (.tup ys)))) ∨ (SqT K H p ys ∧ Q (.ref p) H))
theorem call_tupN {X : Cx} : CallR X (.type "tuple") (rTupN X.K) := by
  intro pins s σ H xs us Q I r h
  obtain ⟨p, ys, rfl, h⟩ := h
  obtain ⟨u, rfl, rx⟩ := vals1 r
  cases rx
  rcases h with ⟨hq, q⟩ | ⟨hq, q⟩
  rotate_left
  · obtain ⟨_, _, pl, _⟩ := I.tuple hq
    exact call_tuple_same pl ⟨.ref p, H, I, rfl, q⟩
  obtain ⟨its, rv, pl, hz⟩ := I.list hq
  have hl := rv.length
  refine call_tuple_list pl.isList (fun h' kp => ?_) (by simp only [List.size_toArray] <;> omega)
  have I1 : Inv X pins σ H { s with heap := h' } := I.kept (t' := s.toks) kp
  have nn : H h'.objs.size = none := I1.hok.fresh (Nat.le_refl _)
  exact ⟨.ref h'.objs.size, _, I1.laid (t' := s.toks) (o := .frz _ (.tup ys)) (fun _ _ e => Heap.get?_push_of_some _ e) (Nat.le_refl _) ⟨Heap.get?_push_size _ rfl, hz, its, rv, _, Heap.get?_push_size _ rfl, rfl, _, rfl⟩, rfl, q _ _ rfl nn⟩
theorem c_tuple : CaS K ca (rTupN K) gTupleC := by
  intro W σ F0 H0 F H vs as Q gr h p
  unfold gTupleC at p
  split at p
  · rename_i r
    obtain ⟨v, rfl, hx⟩ := pr1 h
    cases e : r.tv with
    | some xs =>
      rw [e] at p
      obtain ⟨q, ws, rfl, a1, a2, dq⟩ := tv_ok gr.cfg.sub hx e
      exact ⟨q, ws, rfl, .inr ⟨a1, p F H _ gr (.tup a2 dq)⟩⟩
    | none =>
      rw [e] at p
      simp only at p
      cases e2 : r.qv with
      | none => rw [e2] at p; exact p.elim
      | some xs =>
        rw [e2] at p
        obtain ⟨q, ws, rfl, a1, dq⟩ := qv_ok gr.cfg.sub hx e2
        refine ⟨q, ws, rfl, .inl ⟨a1, fun o l no hl => ?_⟩⟩
        have g2 := Grow.newF gr.cfg (.frz o (.tup ws)) hl
        exact p _ _ _ (gr.trans g2) (.tup (.frz no upd_same) (DqA.mono g2.ff _ _ dq))
  · exact p.elim
def gListC : List RV → Rs RV
  | [r] => (rsO r.sq).bind fun xs => .ok (.ol xs)
  | _ => .no
theorem c_list : CaS K ca (fun xs H Q => ∃ p ys, xs = [.ref p] ∧ (SqL K H p ys ∨ SqT K H p ys) ∧ ∀ l, H l = none → Q (.ref l) (upd H l (.lst ys))) gListC := by
  intro W σ F0 H0 F H vs as Q gr h p
  unfold gListC at p
  split at p
  · rename_i r
    obtain ⟨v, rfl, hx⟩ := pr1 h
    cases e : r.sq with
    | none => rw [e] at p; exact p.elim
    | some xs =>
      rw [e] at p
      obtain ⟨q, ws, rfl, hq, dq⟩ := sq_ok gr.cfg.sub hx e
      refine ⟨q, ws, rfl, hq, fun l hl => ?_⟩
      have g2 := Grow.newO gr.cfg (.lst ws) hl (fun _ z => by cases z)
      exact p _ _ _ (gr.trans g2) ⟨l, _, rfl, none_n gr.hh hl, same_none gr.cfg.sub hl, upd_same, dq⟩
  · exact p.elim
def gMin2 : List RV → Rs RV
  | [.d (.int i), .d (.int j)] => okI (if j < i then j else i)
  | _ => .no
def gMax2 : List RV → Rs RV
  | [.d (.int i), .d (.int j)] => okI (if j > i then j else i)
  | _ => .no
theorem c_min2 : CaS K ca (fun xs H Q => ∃ i j, xs = [.int i, .int j] ∧ Q (.int (if j < i then j else i)) H) gMin2 := by
  intro W σ F0 H0 F H vs as Q gr h p
  unfold gMin2 at p
  split at p
  · obtain ⟨v, w, rfl, h1, h2⟩ := pr2 h
    cases h1; cases h2
    exact ⟨_, _, rfl, p F H _ gr (.int _)⟩
  · exact p.elim
theorem c_max2 : CaS K ca (fun xs H Q => ∃ i j, xs = [.int i, .int j] ∧ Q (.int (if j > i then j else i)) H) gMax2 := by
  intro W σ F0 H0 F H vs as Q gr h p
  unfold gMax2 at p
  split at p
  · obtain ⟨v, w, rfl, h1, h2⟩ := pr2 h
    cases h1; cases h2
    exact ⟨_, _, rfl, p F H _ gr (.int _)⟩
  · exact p.elim
def intsD : List PyData → Option (List Int)
  | [] => some []
  | .int i :: xs => (intsD xs).map (i :: ·)
  | _ => none
def boolsD : List PyData → Option (List Bool)
  | [] => some []
  | .bool i :: xs => (boolsD xs).map (i :: ·)
  | _ => none
theorem ints_ok {F : Hp} : ∀ {xs : List PyData} {vs : List V} {ns : List Int}, DqA K F vs xs → intsD xs = some ns → vs = ns.map V.int
  | [], _, ns, h, e => by cases h; cases e; rfl
  | x :: xs, _, ns, h, e => by
    cases h with
    | cons h1 h2 =>
      cases x with
      | int i =>
        cases e2 : intsD xs with
        | none => simp [intsD, e2] at e
        | some ms => simp [intsD, e2] at e; subst e; cases h1; rw [ints_ok h2 e2]; rfl
      | _ => cases e
@[simp] theorem intsD_map (ns : List Int) : intsD (ns.map .int) = some ns := by
  induction ns with
  | nil => rfl
  | cons i ns ih => simp [intsD, ih]
@[simp] theorem boolsD_map (ns : List Bool) : boolsD (ns.map .bool) = some ns := by
  induction ns with
  | nil => rfl
  | cons i ns ih => simp [boolsD, ih]
def ins (x : Int) : List Int → List Int
  | [] => [x]
  | y :: ys => if x ≤ y then x :: y :: ys else y :: ins x ys
def isort : List Int → List Int
  | [] => []
  | x :: xs => ins x (isort xs)
def gSorted : List RV → Rs RV
  | [r] => (rsO r.qv).bind fun xs => (rsO (intsD xs)).bind fun ns => .ok (.ol ((isort ns).map .int))
  | _ => .no
def gAny : List RV → Rs RV
  | [r] => (rsO r.qv).bind fun xs => (rsO (boolsD xs)).bind fun bs => okB (bs.any id)
  | _ => .no
def gAll : List RV → Rs RV
  | [r] => (rsO r.qv).bind fun xs => (rsO (boolsD xs)).bind fun bs => okB (bs.all id)
  | _ => .no
def gSum : List RV → Rs RV
  | [r] => (rsO r.qv).bind fun xs => (rsO (intsD xs)).bind fun bs => okI bs.sum
  | _ => .no
def gStr : List RV → Rs RV
  | [.d (.int i)] => if i.natAbs.log2 < 1920 then .ok (.d (.str (toString i : String))) else .no
  | _ => .no
theorem c_str : CaS K ca (fun xs H Q => ∃ i, xs = [.int i] ∧ i.natAbs.log2 < 1920 ∧ Q (.str (toString i : String)) H) gStr := by
  intro W σ F0 H0 F H vs as Q gr h p
  unfold gStr at p
  split at p
  · obtain ⟨v, rfl, hx⟩ := pr1 h
    cases hx
    split at p
    · rename_i c; exact ⟨_, rfl, c, p F H _ gr (.str _)⟩
    · exact p.elim
  · exact p.elim
def gInt : List RV → Rs RV
  | [.d (.str a)] => (rsO (PySem.intText? a)).bind fun n => if a.length ≤ 640 then okI n else .no
  | _ => .no
theorem c_int : CaS K ca (fun xs H Q => ∃ a n, xs = [.str a] ∧ PySem.intText? a = some n ∧ a.length ≤ 640 ∧ Q (.int n) H) gInt := by
  intro W σ F0 H0 F H vs as Q gr h p
  unfold gInt at p
  split at p
  · rename_i a
    obtain ⟨v, rfl, hx⟩ := pr1 h
    cases hx
    cases e : PySem.intText? a with
    | none => rw [e] at p; exact p.elim
    | some n =>
      rw [e] at p
      simp only [rsO_some, Rs.bind_ok] at p
      split at p
      · rename_i c; exact ⟨_, _, rfl, e, c, p F H _ gr (.int _)⟩
      · exact p.elim
  · exact p.elim
end
section
variable {ca : CA} {W : WX} {X : Cx} {a b e : Expr} {es : List Expr} {fa fb : VEnv → Rs RV} {pos : Pos}
structure VO (ca : CA) (W : WX) (X : Cx) (e : Option Expr) (f : VEnv → Rs (Option Int)) : Prop where
  ex : ∃ t, PO X e t ∧ ∀ B F env σ H Q, StOk X.K ca B F env σ H → (∀ o, f env = .ok o → ∀ F' H', Grow F H F' H' → Q o H') → (∀ c fs, f env = .ex c fs → PostX X.K ca W σ F H c fs) → f env ≠ .no → t σ H Q
def oN : VEnv → Rs (Option Int) := fun _ => .ok none
def oS (f : VEnv → Rs RV) : VEnv → Rs (Option Int) := fun env => (f env).bind fun r => match r with
  | .d (.int i) => .ok (some i)
  | _ => .no
theorem vo_none : VO ca W X none oN := ⟨_, po_none, fun B F env σ H Q st p _ _ => p none rfl F H (Grow.refl st.cfg)⟩
theorem vo_some (h : VE ca W X e fa) : VO ca W X (some e) (oS fa) := by
  obtain ⟨t, pe, se⟩ := h
  refine ⟨_, po_some pe, fun B F env σ H Q st p px pn => ?_⟩
  show t σ H fun x H1 => ∃ i, x = .int i ∧ Q (some i) H1
  refine se B F env σ H _ st ?_
  unfold oS at p px pn
  cases e1 : fa env with
  | no => rw [e1] at pn; exact (pn rfl).elim
  | ex c fs => exact px c fs (by rw [e1]; rfl)
  | ok r =>
    rw [e1] at p pn
    intro F' H' v g q
    simp only [Rs.bind_ok] at p pn
    split at pn
    · rename_i i; cases q; exact ⟨i, rfl, p _ rfl F' H' g⟩
    · exact (pn rfl).elim
def cSl (f : VEnv → Rs RV) (l h : VEnv → Rs (Option Int)) : VEnv → Rs RV := fun env => (f env).bind fun r => (l env).bind fun lo => (h env).bind fun hi => gSl r lo hi
theorem ve_sl {lo hi : Option Expr} {p2 : Pos} {l h : VEnv → Rs (Option Int)} (he : VE ca W X e fa) (hl : VO ca W X lo l) (hh : VO ca W X hi h) : VE ca W X (.Subscript e (.Slice lo hi none p2) pos) (cSl fa l h) := by
  obtain ⟨t, pe, se⟩ := he
  obtain ⟨tl, pl, sl⟩ := hl
  obtain ⟨th, ph, sh⟩ := hh
  refine ⟨_, pe_slice sl_all pe pl ph, fun B F env σ H Q st p => ?_⟩
  show t σ H fun x H1 => tl σ H1 fun l H2 => th σ H2 fun u H3 => rSlAll X.K x l u H3 Q
  refine seqE (PostE X.K ca W σ F H Q) se st p (fun _ _ h => h) (fun h => h) fun r F1 H1 v p1 g1 q1 => ?_
  refine sl B F1 env σ H1 _ (st.grow g1) (fun o eo F2 H2 g2 => ?_) (fun c fs ex => ?_) (fun en => ?_)
  · rw [eo] at p1
    simp only [Rs.bind_ok] at p1
    refine sh B F2 env σ H2 _ ((st.grow g1).grow g2) (fun u eu F3 H3 g3 => ?_) (fun c fs ex => ?_) (fun en => ?_)
    · rw [eu] at p1
      exact s_sl ((g1.trans g2).trans g3) ((q1.grow g2).grow g3) p1
    · rw [ex] at p1; exact PostX.mono (g1.trans g2) p1
    · rw [en] at p1; exact p1
  · rw [ex] at p1; exact PostX.mono g1 p1
  · rw [en] at p1; exact p1
def gRev (r : RV) : Rs RV := (rsO r.qv).bind fun xs => .ok (.ol xs.reverse)
def tyD : PyData → Option String
  | .none => some "NoneType"
  | .bool _ => some "bool"
  | .int _ => some "int"
  | .str _ => some "str"
  | .list _ => some "list"
  | .tuple _ => some "tuple"
  | .dict _ => none
def gIsi (T : String) (r : RV) : Rs RV := (rsO (r.data.bind tyD)).bind fun t => (rsO (kitB t T)).bind okB
end
end VL
namespace VL
open PySem PySem.Spec PyProof.Rows L2
def RV.isOb : RV → Bool
  | .ob _ _ _ => true
  | _ => false
section
variable {K : PySem.W.Frag} {ca : CA} {W : WX} {B : Base} {F H : Hp} {env : VEnv} {σ : L2.St}
theorem own_xd {K : PySem.W.Frag} {H0 F H : Hp} {p : Addr} {r : RV} {xs : List (Str × V)} (o : r.own = true) (h : RVok K H0 F H (.ref p) r) (hx : H p = some (.xd xs)) : False := by
  cases r with
  | ol ys => obtain ⟨a, ws, z, _, _, h2, _⟩ := h; cases z; rw [hx] at h2; cases h2
  | od ys => obtain ⟨a, ws, z, _, _, h2, _⟩ := h; cases z; rw [hx] at h2; cases h2
  | ot ys =>
    obtain ⟨a, ws, z, _, _, h2, _⟩ := h; cases z; rw [hx] at h2
    have h3 := Option.some.inj h2
    have h4 : HO.xd xs = HO.ext _ := h3
    cases h4
  | ob me x fs => obtain ⟨a, z, C, dx, vs, _, h2, _⟩ := h; cases z; rw [hx] at h2; cases h2
  | _ => cases o
theorem StOk.ownAt (st : StOk K ca B F env σ H) {i : Nat} {xs : List PyData} (e : env[i]? = some (some (.ol xs))) : ∃ p vs, σ[i]? = some (some (.ref p)) ∧ B.H p = none ∧ F p = none ∧ H p = some (.lst vs) ∧ DqA K F vs xs := by
  obtain ⟨v, e1, p, vs, rfl, q⟩ := st.sl i _ e
  exact ⟨p, vs, e1, q⟩
theorem ObOk.aside {K : PySem.W.Frag} {H0 F H : Hp} {p a : Addr} {x : Str} {fs : List (Str × FV)} {o' : HO} (h : ObOk K H0 F H a x fs) (ne : a ≠ p) (nq : p ∉ fla H a fs) : ObOk K H0 F (upd H p o') a x fs := by
  have h' := h
  obtain ⟨C, dx, vs, _, _, n0, f0, _⟩ := h'
  exact h.to (Same.refl _) n0 f0 (upd_ne ne) fun q hq ws n f e => ⟨n, f, by rw [upd_ne (show q ≠ p from fun z => nq (by rw [← z]; exact hq))]; exact e⟩
theorem BoOk.aside {K : PySem.W.Frag} {F H : Hp} {p a : Addr} {x : Str} {fs : List (Str × FV)} {o' : HO} (h : BoOk K F H a x fs) (ne : a ≠ p) (nq : p ∉ fla H a fs) : BoOk K F (upd H p o') a x fs :=
  h.to (Same.refl _) (upd_ne ne) fun q hq ws e => by rw [upd_ne (show q ≠ p from fun z => nq (by rw [← z]; exact hq))]; exact e
theorem TabOk.aside {T : List Addr} {F H : Hp} {p : Addr} {o o' : HO} (h : TabOk T F H) (hp : H p = some o) (no : ∀ ps, o ≠ .tbl ps) : TabOk T F (upd H p o') :=
  h.to fun P ps f e => ⟨f, upd_ne fun z => by rw [z, hp] at e; exact no ps (Option.some.inj e)⟩
theorem own_tbl {K : PySem.W.Frag} {H0 F H : Hp} {p : Addr} {r : RV} {ps : Array Value} (o : r.own = true) (h : RVok K H0 F H (.ref p) r) (hx : H p = some (.tbl ps)) : False := by
  cases r with
  | ol ys => obtain ⟨a, ws, z, _, _, h2, _⟩ := h; cases z; rw [hx] at h2; cases h2
  | od ys => obtain ⟨a, ws, z, _, _, h2, _⟩ := h; cases z; rw [hx] at h2; cases h2
  | ot ys =>
    obtain ⟨a, ws, z, _, _, h2, _⟩ := h; cases z; rw [hx] at h2
    have h3 := Option.some.inj h2
    have h4 : HO.tbl ps = HO.ext _ := h3
    cases h4
  | ob me x fs => obtain ⟨a, z, C, dx, vs, _, h2, _⟩ := h; cases z; rw [hx] at h2; cases h2
  | _ => cases o
theorem StOk.write (st : StOk K ca B F env σ H) {i : Nat} {r0 r1 : RV} {p : Addr} {o o' : HO} (e : env[i]? = some (some r0)) (ow : r0.own = true) (es : σ[i]? = some (some (.ref p))) (hp : H p = some o) (n0 : B.H p = none) (f0 : F p = none) (nt : ∀ xs, o' ≠ .tup xs)
    (ok : RVok K B.H F (upd H p o') (.ref p) r1) (ob : r1.isB = false) (nob0 : r0.isOb = false := by rfl) (nob1 : r1.isOb = false := by rfl) : StOk K ca B F (env.set i (some r1)) σ (upd H p o') := by
  have hi : i < env.length := (List.getElem?_eq_some_iff.mp e).1
  have back : ∀ {j : Nat} {r : RV}, (env.set i (some r1))[j]? = some (some r) → (r.isOb = true ∨ r.isB = true) → j ≠ i ∧ env[j]? = some (some r) := fun {j r} ej o => by
    by_cases h : i = j
    · subst h
      rw [List.getElem?_set_self hi] at ej
      cases ej
      rcases o with o | o
      · rw [nob1] at o; cases o
      · rw [ob] at o; cases o
    · rw [List.getElem?_set_ne h] at ej; exact ⟨Ne.symm h, ej⟩
  have owns : ∀ {j : Nat} {r : RV}, (env.set i (some r1))[j]? = some (some r) → r.own = true → ∃ r', env[j]? = some (some r') ∧ r'.own = true := fun {j r} ej o => by
    by_cases h : i = j
    · subst h; exact ⟨r0, e, ow⟩
    · rw [List.getElem?_set_ne h] at ej; exact ⟨r, ej, o⟩
  obtain ⟨v0, ev0, q0⟩ := st.sl i r0 e
  have ev0' : v0 = .ref p := by rw [es] at ev0; cases ev0; rfl
  subst ev0'
  have obq : ∀ {j : Nat} {a : Addr} {me : Bool} {x : Str} {fs : List (Str × FV)}, env[j]? = some (some (.ob me x fs)) → σ[j]? = some (some (.ref a)) → p ∉ fla H a fs := fun {j a me x fs} ej sj hq => st.rg.o1 j i a p me x fs r0 ej sj hq e ow es
  have obp : ∀ {j : Nat} {a : Addr} {me : Bool} {x : Str} {fs : List (Str × FV)}, env[j]? = some (some (.ob me x fs)) → σ[j]? = some (some (.ref a)) → a ≠ p := fun {j a me x fs} ej sj z => by
    by_cases h : j = i
    · subst h; rw [e] at ej; cases ej; cases nob0
    · exact st.dis j i _ r0 a h ej e rfl ow sj (z ▸ es)
  have boq : ∀ {j : Nat} {a : Addr} {x : Str} {fs : List (Str × FV)}, env[j]? = some (some (.bo x fs)) → σ[j]? = some (some (.ref a)) → p ∉ fla H a fs := fun {j a x fs} ej sj hq => by
    obtain ⟨o, ho⟩ := st.rg.o3 j a p x fs ej sj hq
    rw [n0] at ho; cases ho
  have bop : ∀ {j : Nat} {a : Addr} {x : Str} {fs : List (Str × FV)}, env[j]? = some (some (.bo x fs)) → σ[j]? = some (some (.ref a)) → a ≠ p := fun {j a x fs} ej sj z => by
    obtain ⟨o, ho⟩ := st.bo j _ a ej rfl sj
    rw [z, n0] at ho; cases ho
  have fe : ∀ {a : Addr} {fs : List (Str × FV)}, a ≠ p → fla (upd H p o') a fs = fla H a fs := fun h => by unfold fla; rw [upd_ne h]
  refine ⟨st.gr.write n0 f0 hp nt, by simpa using st.len, fun j r ej => ?_, fun j r a ej o z => ?_, fun j k r r' a jk e1 e2 o1 o2 z1 z2 => ?_,
    ⟨st.rg.tb.aside hp (fun ps z => own_tbl ow q0 (z ▸ hp)), fun a b p1 q me x fs r ea za hq eb ob' => ?_, fun a b p1 p2 q me me' x x' fs fs' ab ea za eb zb hq hq' => ?_, fun a p1 q x fs ea za hq => ?_, fun a x fs ea => st.rg.me a x fs (back ea (.inl rfl)).2⟩⟩
  rotate_right 3
  · have ea' := (back ea (.inl rfl)).2
    rw [fe (obp ea' za)] at hq
    obtain ⟨r', eb', ob2⟩ := owns eb ob'
    exact st.rg.o1 a b p1 q me x fs r' ea' za hq eb' ob2
  · have ea' := (back ea (.inl rfl)).2
    have eb' := (back eb (.inl rfl)).2
    rw [fe (obp ea' za)] at hq
    rw [fe (obp eb' zb)] at hq'
    exact st.rg.o2 a b p1 p2 q me me' x x' fs fs' ab ea' za eb' zb hq hq'
  · have ea' := (back ea (.inr rfl)).2
    rw [fe (bop ea' za)] at hq
    exact st.rg.o3 a p1 q x fs ea' za hq
  · by_cases h : i = j
    · subst h
      rw [List.getElem?_set_self hi] at ej
      cases ej
      exact ⟨_, es, ok⟩
    · rw [List.getElem?_set_ne h] at ej
      obtain ⟨w, ew, q⟩ := st.sl j r ej
      refine ⟨w, ew, ?_⟩
      have ne : ∀ a, r.own = true → w = .ref a → a ≠ p := fun a o z y => by
        subst y; subst z
        exact st.dis i j r0 r a h e ej ow o es ew
      have nb : ∀ a, r.isB = true → w = .ref a → a ≠ p := fun a o z y => by
        subst y; subst z
        obtain ⟨ob, hb⟩ := st.bo j r a ej o ew
        rw [n0] at hb; cases hb
      cases r with
      | d x => exact q
      | ol ys => obtain ⟨a, ws, z, n, f2, h2, q4⟩ := q; exact ⟨a, ws, z, n, f2, by rw [upd_ne (ne a rfl z)]; exact h2, q4⟩
      | od ys => obtain ⟨a, ws, z, n, f2, h2, q4⟩ := q; exact ⟨a, ws, z, n, f2, by rw [upd_ne (ne a rfl z)]; exact h2, q4⟩
      | ot ys => obtain ⟨a, ws, z, n, f2, h2, q4⟩ := q; exact ⟨a, ws, z, n, f2, by rw [upd_ne (ne a rfl z)]; exact h2, q4⟩
      | sc ns => exact q
      | t3 x ys kvs => exact t3_mono (Same.refl _) q
      | fd kvs => exact fd_mono (Same.refl _) q
      | ob me x fs => obtain ⟨a, z, h4⟩ := q; subst z; exact ⟨a, rfl, h4.aside (obp ej ew) (obq ej ew)⟩
      | bo x fs => obtain ⟨a, z, h4⟩ := q; subst z; exact ⟨a, rfl, h4.aside (bop ej ew) (boq ej ew)⟩
      | bl ys => obtain ⟨a, ws, z, h2, q4⟩ := q; exact ⟨a, ws, z, by rw [upd_ne (nb a rfl z)]; exact h2, q4⟩
      | bd ys => obtain ⟨a, ws, z, h2, q4⟩ := q; exact ⟨a, ws, z, h2.imp (fun w => by rw [upd_ne (nb a rfl z)]; exact w) (fun ⟨o, w⟩ => ⟨o, by rw [upd_ne (nb a rfl z)]; exact w⟩), q4⟩
      | bt ys => obtain ⟨a, ws, z, h2, q4⟩ := q; exact ⟨a, ws, z, by rw [upd_ne (nb a rfl z)]; exact h2, q4⟩
      | xo a dd c fs =>
        obtain ⟨z, ws, h2, q4⟩ := q
        have hne : dd ≠ p := fun y => by
          subst y
          obtain ⟨v0, ev0, q0⟩ := st.sl i r0 e
          rw [es] at ev0
          cases ev0
          exact own_xd ow q0 h2
        exact ⟨z, ws, by rw [upd_ne hne]; exact h2, q4⟩
  · by_cases h : i = j
    · subst h
      rw [List.getElem?_set_self hi] at ej
      cases ej
      rw [ob] at o; cases o
    · rw [List.getElem?_set_ne h] at ej
      exact st.bo j r a ej o z
  · have own : ∀ (j : Nat) (r : RV), (env.set i (some r1))[j]? = some (some r) → r.own = true → ∃ r', env[j]? = some (some r') ∧ r'.own = true := fun j r ej o => by
      by_cases h : i = j
      · subst h; exact ⟨r0, e, ow⟩
      · rw [List.getElem?_set_ne h] at ej; exact ⟨r, ej, o⟩
    obtain ⟨s1, f1, g1⟩ := own j r e1 o1
    obtain ⟨s2, f2, g2⟩ := own k r' e2 o2
    exact st.dis j k s1 s2 a jk f1 f2 g1 g2 z1 z2
end
section
variable {ca : CA} {W : WX} {X : Cx} {a b e : Expr} {es : List Expr} {fa fb : VEnv → Rs RV} {pos : Pos}
def sApp (i : Nat) (fe : VEnv → Rs RV) : VEnv → Out := fun env => match env[i]? with
  | some (some (.ol xs)) => (fe env).out env fun r => match r.toD with
    | some d => if xs.length ≤ 1000000 then .nx (env.set i (some (.ol (xs ++ [d])))) else .no
    | none => .no
  | _ => .no
theorem vs_app (i : Nat) {x : Str} {p1 p2 p3 : Pos} (he : VE ca W X e fa) (hN : X.N[i]? = some x := by rfl) (hv : Vis X.env.scope x := by first | exact Or.inl rfl | exact Or.inr (Or.inl rfl) | exact Or.inr (Or.inr rfl)) (hd : (x == ("__debug__" : Str)) = false := by decide) (hcd : (x == ("__classdict__" : Str)) = false := by decide)
    (hbase : attributeBase (.Name x p1) "append" X.env (eval (.Name x p1) X.env) = eval (.Name x p1) X.env := by rfl)
    (hfew : ((backTo p3 (starEach (e :: []) X.env)).all (fun x => !x.1) && (backToKw p3 (keywordEach [] X.env)).all (fun x => x.1.isSome)
      && decide ((e :: []).length + ([] : List Keyword).length + (if ([] : List Keyword).isEmpty then 0 else 1) < 30)) = true := by rfl)
    (hline : (p2.endLine == p3.line) = true := by rfl) (hs : starEach (e :: []) X.env = (false, eval e X.env) :: starEach [] X.env := by rfl) (hplain : (backTo p3 (starEach [] X.env)).any (·.1) = false := by rfl)
    (hsw : swapsWith (.Call (.Attribute (.Name x p1) "append" p2) [e] [] p3) none pos.line X.env = pure false := by rfl) :
    VS ca W X (.Expr (.Call (.Attribute (.Name x p1) "append" p2) [e] [] p3) pos) (sApp i fa) := by
  obtain ⟨t, pe, se⟩ := he
  refine ⟨_, ps_expr (pe_bm PySem.F.plainAttrs_list PySem.F.slot_list_append PySem.F.type_list_append mt_append (pe_var hN hv hd hcd) (pa_cons pe pa_nil hs) hbase hfew hline hs hplain) hsw, fun B F env σ H D st p => ?_⟩
  show ∃ v, σ[i]? = some (some v) ∧ (tyV X.K "list" v H ∧ t σ H fun y H1 => rAppend v [y] H1 fun _ H2 => D.nx σ H2)
  unfold sApp at p
  split at p
  · rename_i xs e1
    obtain ⟨a, vs, s1, n0, f0, hp, q⟩ := st.ownAt e1
    refine ⟨.ref a, s1, .inl ⟨rfl, vs, SqL.of hp⟩, ?_⟩
    refine outE se st p fun r F1 H1 v p1 g q1 => ?_
    cases e2 : r.toD with
    | none => rw [e2] at p1; exact p1.elim
    | some d =>
      rw [e2] at p1
      simp only at p1
      split at p1
      · rename_i hz
        obtain ⟨F2, g2, s2, q2⟩ := frz g (Fz.of q1 e2)
        have st2 := st.grow g2
        have hp2 := g2.hh _ _ hp
        have f2 := g2.stillFree f0 hp
        have q3 : DqA X.K F2 (vs ++ [v]) (xs ++ [d]) := (DqA.mono g2.ff _ _ q).append (.cons q2 .nil)
        refine ⟨a, vs, v, rfl, rfl, hp2, by rw [q.length]; exact million hz, ?_⟩
        exact p1 F2 σ _ s2 (st2.write (r1 := .ol (xs ++ [d])) e1 rfl s1 hp2 n0 f2 (fun _ z => by cases z) ⟨a, _, rfl, n0, f2, upd_same, q3⟩ rfl)
      · exact p1.elim
  · exact p.elim
def sStore (i : Nat) (fi fe : VEnv → Rs RV) : VEnv → Out := fun env => match env[i]? with
  | some (some (.ol xs)) => (fe env).out env fun r => (fi env).out env fun ix => match r.toD, ix with
    | some d, .d (.int k) => (match ixN xs.length k with
      | some j => .nx (env.set i (some (.ol (xs.set j d))))
      | none => .no)
    | _, _ => .no
  | _ => .no
theorem vs_store (i : Nat) {x : Str} {ie : Expr} {p1 p2 : Pos} {fi : VEnv → Rs RV} (he : VE ca W X e fa) (hi : VE ca W X ie fi) (hN : X.N[i]? = some x := by rfl) (hv : Vis X.env.scope x := by first | exact Or.inl rfl | exact Or.inr (Or.inl rfl) | exact Or.inr (Or.inr rfl)) (hd : (x == ("__debug__" : Str)) = false := by decide) (hcd : (x == ("__classdict__" : Str)) = false := by decide)
    (ha : ∀ v, assign (.Subscript (.Name x p1) ie p2) X.env v = (do
      let ov ← holding [v] (eval (.Name x p1) X.env)
      let iv ← holding [v, ov] (eval ie X.env)
      standAt p2
      holding [v, ov, iv] (setItem ov iv v)
      release [v, ov, iv] []) := by intro _; rfl)
    (hs : swapsWithSole [.Subscript (.Name x p1) ie p2] e pos.line X.env = pure false := by rfl) (hw : swappedStores [.Subscript (.Name x p1) ie p2] e X.env = pure none := by rfl)
    (h1 : (assignEach [.Subscript (.Name x p1) ie p2] X.env).map (·.2) = [assign (.Subscript (.Name x p1) ie p2) X.env] := by rfl) :
    VS ca W X (.Assign [.Subscript (.Name x p1) ie p2] e pos) (sStore i fi fa) := by
  obtain ⟨t, pe, se⟩ := he
  obtain ⟨ti, pi, si⟩ := hi
  refine ⟨_, ps_asg pe (pg_sub (pe_var hN hv hd hcd) pi set_list ha) hs hw h1, fun B F env σ H D st p => ?_⟩
  show t σ H fun v H1 => ∃ o, σ[i]? = some (some o) ∧ ti σ H1 fun iv H3 => rSetL o iv v H3 fun H4 => D.nx σ H4
  unfold sStore at p
  split at p
  · rename_i xs e1
    obtain ⟨a, vs, s1, n0, f0, hp, q⟩ := st.ownAt e1
    refine outE se st p fun r F1 H1 v p1 g q1 => ⟨_, s1, ?_⟩
    refine outE si (st.grow g) p1 fun ix F2 H2 w p2 g2 q2 => ?_
    cases e2 : r.toD with
    | none => rw [e2] at p2; exact p2.elim
    | some d =>
      rw [e2] at p2
      cases ix with
      | d y =>
        cases y with
        | int k =>
          simp only at p2
          cases e3 : ixN xs.length k with
          | none => rw [e3] at p2; exact p2.elim
          | some j =>
            rw [e3] at p2
            cases q2
            obtain ⟨F3, g3, s3, q3⟩ := frz (g.trans g2) (Fz.of (q1.grow g2) e2)
            have hp3 := g3.hh _ _ hp
            have f3 := g3.stillFree f0 hp
            refine ⟨a, vs, k, j, rfl, rfl, hp3, by rw [q.length]; exact e3, ?_⟩
            exact p2 F3 σ _ s3 ((st.grow g3).write (r1 := .ol (xs.set j d)) e1 rfl s1 hp3 n0 f3 (fun _ z => by cases z) ⟨a, _, rfl, n0, f3, upd_same, DqA.set q3 j (DqA.mono g3.ff _ _ q)⟩ rfl)
        | _ => exact p2.elim
      | _ => exact p2.elim
  · exact p.elim
def sAug (i : Nat) (g : RV → RV → Rs RV) (fe : VEnv → Rs RV) : VEnv → Out := fun env => match env[i]? with
  | some (some r0) => (fe env).out env fun r => (g r0.bor r).out env fun z => putS i z env
  | _ => .no
end
def spTrue (K : PySem.W.Frag) : Sp := fun vs H Q _ => ∃ (a : Addr) (ns : List Int), vs = [.ref a] ∧ SqL K H a (ns.map V.int) ∧ ns.length ≤ 63 ∧ ∀ H', Q (.bl true) H'
def noTb (H : Hp) : Hp := fun b => match H b with
  | some (.tbl _) => none
  | o => o
theorem noTb_sub (H : Hp) : Same (noTb H) H := fun b o h => by
  unfold noTb at h
  split at h
  · cases h
  · exact h
theorem noTb_get {H : Hp} {a : Addr} {o : HO} [i : NT o] (h : H a = some o) : noTb H a = some o := by
  unfold noTb
  rw [h]
  cases o with
  | tbl ps => exact absurd rfl (i.nt ps)
  | _ => rfl
theorem law_trueT {K : PySem.W.Frag} {ca : CA} {G : List RV → Rs RV} (h : ∀ ns : List Int, ns.length ≤ 63 → G [.sc ns] = .ok (.d (.bool true))) (vs : List V) (H : Hp) (Q : VK) (E : XK) (tb : ∀ P ∈ ca.T, ∃ ps : Array Value, H P = some (.tbl ps) ∧ TriplesOk ps.toList) (s : spTrue K vs H Q E) : spV K ca 1 G vs H Q E := by
  obtain ⟨a, ns, rfl, hS, hl, q⟩ := s
  have sq : SqL K (noTb H) a (ns.map V.int) := by
    rcases hS with (h | ⟨o, h⟩) | h
    · exact .inl (.inl (noTb_get h))
    · exact .inl (.inr ⟨o, noTb_get h⟩)
    · exact .inr h
  refine ⟨rfl, noTb H, [.sc ns], ⟨noTb_sub H, fun _ _ e => noTb_get e, fun a ps e => by
    unfold noTb at e
    split at e
    · cases e
    · rename_i h
      exact h ps e⟩, fun P hP => ?_, .cons ⟨a, rfl, sq⟩ .nil, ?_⟩
  · obtain ⟨ps, e, t⟩ := tb P hP
    exact ⟨by unfold noTb; rw [e], ps, e, t⟩
  rw [h ns hl]
  intro G' H' v g r
  cases r
  exact q H'
theorem law_true {K : PySem.W.Frag} {ca : CA} {G : List RV → Rs RV} (hT : ca.T = []) (h : ∀ ns : List Int, ns.length ≤ 63 → G [.sc ns] = .ok (.d (.bool true))) (vs : List V) (H : Hp) (Q : VK) (E : XK) (s : spTrue K vs H Q E) : spV K ca 1 G vs H Q E :=
  law_trueT h vs H Q E (fun P hP => by rw [hT] at hP; cases hP) s
end VL
namespace VL
open PySem PySem.Spec PyProof.Rows L2
@[simp] theorem fin_nx (e) : (Out.nx e).fin = .ok (.d .none) := rfl
@[simp] theorem fin_rt (r) : (Out.rt r).fin = .ok r := rfl
@[simp] theorem fin_ex (c fs e) : (Out.ex c fs e).fin = .ex c fs := rfl
@[simp] theorem fin_no : Out.no.fin = .no := rfl
def Out.lp : Out → (VEnv → Out) → Out
  | .nx e, k => k e
  | .ct e, k => k e
  | .bk e, _ => .nx e
  | o, _ => o
@[simp] theorem lp_nx (e k) : (Out.nx e).lp k = k e := rfl
@[simp] theorem lp_ct (e k) : (Out.ct e).lp k = k e := rfl
@[simp] theorem lp_bk (e k) : (Out.bk e).lp k = .nx e := rfl
@[simp] theorem lp_rt (r k) : (Out.rt r).lp k = .rt r := rfl
@[simp] theorem lp_ex (c fs e k) : (Out.ex c fs e).lp k = .ex c fs e := rfl
@[simp] theorem lp_no (k) : Out.no.lp k = .no := rfl
@[simp] theorem loopF_nil (tg f env) : loopF tg f [] env = .nx env := rfl
theorem loopF_cons (tg f x xs env) : loopF tg f (x :: xs) env = match tgE tg x env with
  | none => .no
  | some e1 => (f e1).lp (loopF tg f xs) := by
  unfold loopF
  cases tgE tg x env with
  | none => rfl
  | some e1 => cases h : f e1 <;> simp [h, Out.lp]
theorem loopF_go {α β : Type} {tg : Tg} {f : VEnv → Out} (R : Nat → α → VEnv → Prop) (emb : β → PyData) (step : α → β → α) : ∀ (xs : List β) (j : Nat) (s : α) (env : VEnv),
    (∀ i s env x, xs[i]? = some x → R (j + i) s env → ∃ e1, tgE tg (emb x) env = some e1 ∧ ∃ env', (f e1 = .nx env' ∨ f e1 = .ct env') ∧ R (j + i + 1) (step s x) env') → R j s env → ∃ env', loopF tg f (xs.map emb) env = .nx env' ∧ R (j + xs.length) (xs.foldl step s) env'
  | [], j, s, env, _, h => ⟨env, rfl, h⟩
  | x :: xs, j, s, env, hs, h => by
    obtain ⟨e1, t1, env', fe, r⟩ := hs 0 s env x rfl h
    obtain ⟨env2, l2, r2⟩ := loopF_go R emb step xs (j + 1) (step s x) env' (fun i s env y hy => by
      have := hs (i + 1) s env y (by simpa using hy)
      rw [show j + (i + 1) = j + 1 + i by omega] at this
      exact this) r
    refine ⟨env2, ?_, ?_⟩
    · rw [List.map_cons, loopF_cons, t1]
      rcases fe with fe | fe <;> simp only [fe, Out.lp] <;> exact l2
    · rw [List.length_cons, show j + (xs.length + 1) = j + 1 + xs.length by omega]; exact r2
theorem loopF_rel {α β : Type} {tg : Tg} {f : VEnv → Out} (R : Nat → α → VEnv → Prop) (emb : β → PyData) (step : α → β → α) (xs : List β) (s : α) (env : VEnv)
    (h : ∀ i s env x, xs[i]? = some x → R i s env → ∃ e1, tgE tg (emb x) env = some e1 ∧ ∃ env', (f e1 = .nx env' ∨ f e1 = .ct env') ∧ R (i + 1) (step s x) env') (h0 : R 0 s env) : ∃ env', loopF tg f (xs.map emb) env = .nx env' ∧ R xs.length (xs.foldl step s) env' := by
  have := loopF_go R emb step xs 0 s env (fun i s env x hx r => by rw [Nat.zero_add] at r ⊢; exact h i s env x hx r) h0
  rw [Nat.zero_add] at this
  exact this
@[simp] theorem lcF_nil (tg t fe env) : lcF tg t fe env [] = .ok [] := rfl
theorem lcF_map {β : Type} {tg : Tg} {t : VEnv → Rs Bool} {fe : VEnv → Rs RV} {env : VEnv} (emb : β → PyData) (p : β → Bool) (g : β → PyData) : ∀ (xs : List β),
    (∀ x ∈ xs, ∃ e1, tgE tg (emb x) env = some e1 ∧ t e1 = .ok (p x) ∧ (p x = true → ∃ r, fe e1 = .ok r ∧ r.toD = some (g x))) → lcF tg t fe env (xs.map emb) = .ok ((xs.filter p).map g)
  | [], _ => rfl
  | x :: xs, h => by
    obtain ⟨e1, t1, c1, f1⟩ := h x List.mem_cons_self
    have ih := lcF_map (tg := tg) (t := t) (fe := fe) (env := env) emb p g xs fun y hy => h y (List.mem_cons_of_mem _ hy)
    rw [List.map_cons]
    unfold lcF
    rw [t1]
    simp only
    rw [c1]
    cases hp : p x with
    | false => simp only; rw [ih, List.filter_cons_of_neg (by simp [hp])]
    | true =>
      obtain ⟨r, f2, f3⟩ := f1 hp
      simp only
      rw [f2]
      simp only
      rw [f3]
      simp only
      rw [ih, List.filter_cons_of_pos hp]
      rfl
end VL
namespace VL
open PySem PySem.Spec PyProof.Rows L2
section
variable (f g : VEnv → Out) (fa fb : VEnv → Rs RV) (fA : VEnv → Rs (List RV)) (tb tc : VEnv → Rs Bool) (env : VEnv) (i j : Nat) (x y : PyData) (xs ys : List PyData)
@[simp] theorem e_nil : sNil env = .nx env := rfl
@[simp] theorem e_seq : sSeq f g env = (f env).then g := rfl
@[simp] theorem e_fz : sFz i f env = f (fzE i env) := rfl
@[simp] theorem e_bk : sBk env = .bk env := rfl
@[simp] theorem e_ct : sCt env = .ct env := rfl
@[simp] theorem e_ret : sRet fa env = (fa env).out env fun r => (r.nb).out env .rt := rfl
@[simp] theorem e_retN : sRetN env = .rt (.d .none) := rfl
@[simp] theorem e_drop : sDrop fa env = (fa env).out env fun _ => .nx env := rfl
@[simp] theorem e_set : sSet i fa env = (fa env).out env fun r => putS i r env := rfl
@[simp] theorem e_if : sIf tb f g env = (tb env).out env fun b => if b = true then f env else g env := rfl
@[simp] theorem e_for (tg src) : sFor tg src f env = (src env).out env fun xs => loopF tg f xs env := rfl
@[simp] theorem e_cC : cC x env = .ok (.d x) := rfl
@[simp] theorem e_c2 (h) : c2 h fa fb env = (fa env).bind fun x => (fb env).bind fun y => h x y := rfl
@[simp] theorem e_c1 (h) : c1 h fa env = (fa env).bind h := rfl
@[simp] theorem e_cA (h) : cA h fA env = (fA env).bind h := rfl
@[simp] theorem e_aN : aN env = .ok [] := rfl
@[simp] theorem e_aC : aC fa fA env = (fa env).bind fun x => (fA env).bind fun xs => .ok (x :: xs) := rfl
@[simp] theorem e_cB : cB fa env = (fa env).bind asB := rfl
@[simp] theorem e_asB (b : Bool) : asB (.d (.bool b)) = .ok b := rfl
@[simp] theorem e_bNot : bNot tb env = (tb env).bind fun b => .ok (!b) := rfl
@[simp] theorem e_bAnd : bAnd tb tc env = (tb env).bind fun b => if b = true then tc env else .ok false := rfl
@[simp] theorem e_bOr : bOr tb tc env = (tb env).bind fun b => if b = true then .ok true else tc env := rfl
@[simp] theorem e_vAnd : vAnd fa fb env = (cB fa env).bind fun b => if b = true then fb env else .ok (.d (.bool false)) := rfl
@[simp] theorem e_vOr : vOr fa fb env = (cB fa env).bind fun b => if b = true then .ok (.d (.bool true)) else fb env := rfl
@[simp] theorem e_vNot : vNot fa env = (cB fa env).bind fun b => .ok (.d (.bool (!b))) := rfl
@[simp] theorem e_vIf : vIf tb fa fb env = (tb env).bind fun b => if b = true then fa env else fb env := rfl
@[simp] theorem e_bYes : bYes env = .ok true := rfl
@[simp] theorem e_iL : iL fa env = (fa env).bind gL := rfl
@[simp] theorem e_iT : iT fa env = (fa env).bind gT := rfl
@[simp] theorem e_iLb : iLb fa env = (fa env).bind gLb := rfl
@[simp] theorem e_iR (h) : iR h fA env = (fA env).bind h := rfl
@[simp] theorem e_gL1 : gL (.d (.list xs)) = .ok xs := rfl
@[simp] theorem e_gL2 : gL (.ol xs) = .ok xs := rfl
@[simp] theorem e_gL3 (ns) : gL (.sc ns) = .ok (ns.map .int) := rfl
@[simp] theorem e_gT : gT (.d (.tuple xs)) = .ok xs := rfl
@[simp] theorem e_gLb1 : gLb (.d (.list xs)) = .ok xs := rfl
@[simp] theorem e_gLb2 : gLb (.ol xs) = .ok xs := rfl
@[simp] theorem e_gLb3 : gLb (.bl xs) = .ok xs := rfl
@[simp] theorem e_gLb4 (ns) : gLb (.sc ns) = .ok (ns.map .int) := rfl
@[simp] theorem e_nb1 : (RV.d x).nb = .ok (.d x) := rfl
@[simp] theorem e_nb2 : (RV.ol xs).nb = .ok (.ol xs) := rfl
@[simp] theorem e_bor1 : (RV.d x).bor = .d x := rfl
@[simp] theorem e_bor2 : (RV.ol xs).bor = .bl xs := rfl
@[simp] theorem e_bor3 : (RV.bl xs).bor = .bl xs := rfl
@[simp] theorem e_bor4 (ns) : (RV.sc ns).bor = .sc ns := rfl
@[simp] theorem e_arg1 : (RV.d x).arg = .d x := rfl
@[simp] theorem e_arg2 : (RV.ol xs).arg = .d (.list xs) := rfl
@[simp] theorem e_arg3 : (RV.bl xs).arg = .bl xs := rfl
@[simp] theorem e_arg4 (ns) : (RV.sc ns).arg = .sc ns := rfl
@[simp] theorem e_putd : putS i (.d x) env = if i < env.length then .nx (env.set i (some (.d x))) else .no := rfl
@[simp] theorem e_puto : putS i (.ol xs) env = if i < env.length then .nx (env.set i (some (.ol xs))) else .no := rfl
@[simp] theorem e_toD1 : (RV.d x).toD = some x := rfl
@[simp] theorem e_toD2 : (RV.ol xs).toD = some (.list xs) := rfl
@[simp] theorem e_allD0 : allD [] = some [] := rfl
@[simp] theorem e_allD1 (rs) : allD (.d x :: rs) = (allD rs).map (x :: ·) := by cases h : allD rs <;> simp [allD, h]
@[simp] theorem e_allD2 (rs) : allD (.ol xs :: rs) = (allD rs).map (.list xs :: ·) := by cases h : allD rs <;> simp [allD, h]
@[simp] theorem e_gTupl (rs) : gTupl rs = (rsO (allD rs)).bind fun ds => if ds.length ≤ 1000 then .ok (.d (.tuple ds)) else .no := rfl
@[simp] theorem e_gList (rs) : gList rs = (rsO (allD rs)).bind fun ds => if ds.length ≤ 1000 then .ok (.ol ds) else .no := rfl
@[simp] theorem e_tgnm : tgE (.nm i) x env = if i < env.length then some (env.set i (some (.d x))) else none := rfl
@[simp] theorem e_tgtp (is) : tgE (.tp is) (.tuple xs) env = tgEs is xs env := rfl
@[simp] theorem e_tg0 : tgEs [] [] env = some env := rfl
@[simp] theorem e_tg1 (is) : tgEs (i :: is) (x :: xs) env = if i < env.length then tgEs is xs (env.set i (some (.d x))) else none := rfl
@[simp] theorem e_sq1 : (RV.d (.tuple xs)).sq = some xs := rfl
@[simp] theorem e_sq2 : (RV.d (.list xs)).sq = some xs := rfl
@[simp] theorem e_sq3 : (RV.ol xs).sq = some xs := rfl
@[simp] theorem e_sq4 : (RV.bl xs).sq = some xs := rfl
@[simp] theorem e_sq5 (ns) : (RV.sc ns).sq = some (ns.map .int) := rfl
@[simp] theorem e_qv2 : (RV.d (.list xs)).qv = some xs := rfl
@[simp] theorem e_qv3 : (RV.ol xs).qv = some xs := rfl
@[simp] theorem e_qv4 : (RV.bl xs).qv = some xs := rfl
@[simp] theorem e_qv5 (ns) : (RV.sc ns).qv = some (ns.map .int) := rfl
@[simp] theorem e_data1 : (RV.d x).data = some x := rfl
@[simp] theorem e_data2 : (RV.ol xs).data = some (.list xs) := rfl
@[simp] theorem e_data3 : (RV.bl xs).data = some (.list xs) := rfl
@[simp] theorem e_okI (a : Int) : okI a = .ok (.d (.int a)) := rfl
@[simp] theorem e_okB (a : Bool) : okB a = .ok (.d (.bool a)) := rfl
@[simp] theorem e_i2 (h : Int → Int → Rs RV) (a b : Int) : RV.i2 h (.d (.int a)) (.d (.int b)) = h a b := rfl
@[simp] theorem e_sub (a b : Int) : gSub (.d (.int a)) (.d (.int b)) = .ok (.d (.int (a - b))) := rfl
@[simp] theorem e_mul (a b : Int) : gMul (.d (.int a)) (.d (.int b)) = if a.natAbs < 18446744073709551616 ∨ b.natAbs < 18446744073709551616 then .ok (.d (.int (a * b))) else .no := rfl
@[simp] theorem e_mod (a b : Int) : gMod (.d (.int a)) (.d (.int b)) = if 0 < b then .ok (.d (.int (a % b))) else .no := rfl
@[simp] theorem e_div (a b : Int) : gDiv (.d (.int a)) (.d (.int b)) = if 0 < b ∧ b.natAbs < 1073741824 then .ok (.d (.int (a / b))) else .no := rfl
@[simp] theorem e_pow (a b : Int) : gPow (.d (.int a)) (.d (.int b)) = if 0 ≤ b ∧ b ≤ 1000000 ∧ a.natAbs < 2 ^ 64 then .ok (.d (.int (a ^ b.toNat))) else .no := rfl
@[simp] theorem e_lt (a b : Int) : gLt (.d (.int a)) (.d (.int b)) = .ok (.d (.bool (decide (a < b)))) := rfl
@[simp] theorem e_le (a b : Int) : gLe (.d (.int a)) (.d (.int b)) = .ok (.d (.bool (decide (a ≤ b)))) := rfl
@[simp] theorem e_gt (a b : Int) : gGt (.d (.int a)) (.d (.int b)) = .ok (.d (.bool (decide (b < a)))) := rfl
@[simp] theorem e_ge (a b : Int) : gGe (.d (.int a)) (.d (.int b)) = .ok (.d (.bool (decide (b ≤ a)))) := rfl
@[simp] theorem e_neg (a : Int) : gNeg (.d (.int a)) = .ok (.d (.int (-a))) := rfl
@[simp] theorem e_addI (a b : Int) : gAdd (.d (.int a)) (.d (.int b)) = .ok (.d (.int (a + b))) := rfl
@[simp] theorem e_addS (a b : Str) : gAdd (.d (.str a)) (.d (.str b)) = if a.length + b.length ≤ 1000000 then .ok (.d (.str (a ++ b))) else .no := rfl
@[simp] theorem e_addT : gAdd (.d (.tuple xs)) (.d (.tuple ys)) = if xs.length + ys.length ≤ 1000000 then .ok (.d (.tuple (xs ++ ys))) else .no := rfl
@[simp] theorem e_addL1 : gAdd (.ol xs) (.ol ys) = if xs.length + ys.length ≤ 1000000 then .ok (.ol (xs ++ ys)) else .no := rfl
@[simp] theorem e_addL2 : gAdd (.ol xs) (.bl ys) = if xs.length + ys.length ≤ 1000000 then .ok (.ol (xs ++ ys)) else .no := rfl
@[simp] theorem e_addL3 : gAdd (.bl xs) (.ol ys) = if xs.length + ys.length ≤ 1000000 then .ok (.ol (xs ++ ys)) else .no := rfl
@[simp] theorem e_addL4 : gAdd (.bl xs) (.bl ys) = if xs.length + ys.length ≤ 1000000 then .ok (.ol (xs ++ ys)) else .no := rfl
@[simp] theorem e_addL5 : gAdd (.d (.list xs)) (.ol ys) = if xs.length + ys.length ≤ 1000000 then .ok (.ol (xs ++ ys)) else .no := rfl
@[simp] theorem e_addL6 : gAdd (.d (.list xs)) (.bl ys) = if xs.length + ys.length ≤ 1000000 then .ok (.ol (xs ++ ys)) else .no := rfl
@[simp] theorem e_addL7 : gAdd (.ol xs) (.d (.list ys)) = if xs.length + ys.length ≤ 1000000 then .ok (.ol (xs ++ ys)) else .no := rfl
@[simp] theorem e_addL8 : gAdd (.bl xs) (.d (.list ys)) = if xs.length + ys.length ≤ 1000000 then .ok (.ol (xs ++ ys)) else .no := rfl
@[simp] theorem e_addL9 : gAdd (.d (.list xs)) (.d (.list ys)) = if xs.length + ys.length ≤ 1000000 then .ok (.ol (xs ++ ys)) else .no := rfl
@[simp] theorem e_eq (a b : RV) : gEq a b = (rsO a.data).bind fun x => (rsO b.data).bind fun y => if SeqAt.shaped x = true ∧ SeqAt.shaped y = true then okB (PyData.eqv x y) else .no := rfl
@[simp] theorem e_ne (a b : RV) : gNe a b = (rsO a.data).bind fun x => (rsO b.data).bind fun y => if SeqAt.shaped x = true ∧ SeqAt.shaped y = true then okB (!PyData.eqv x y) else .no := rfl
@[simp] theorem e_in (a b : RV) : gIn a b = (gInB a b).bind okB := rfl
@[simp] theorem e_notIn (a b : RV) : gNotIn a b = (gInB a b).bind fun k => okB (!k) := rfl
@[simp] theorem e_inT (a : Int) : gInB (.d (.int a)) (.d (.tuple xs)) = if SeqAt.shaped (.int a) = true ∧ SeqAt.shaped (.tuple xs) = true then .ok (xs.any fun z => PyData.eqv z (.int a)) else .no := rfl
@[simp] theorem e_inT2 : gInB (.d (.tuple ys)) (.d (.tuple xs)) = if SeqAt.shaped (.tuple ys) = true ∧ SeqAt.shaped (.tuple xs) = true then .ok (xs.any fun z => PyData.eqv z (.tuple ys)) else .no := rfl
@[simp] theorem e_inL1 : gInB (.d x) (.d (.list xs)) = if SeqAt.shaped x = true ∧ SeqAt.shaped (.list xs) = true then .ok (xs.any fun z => PyData.eqv z x) else .no := by cases x <;> rfl
@[simp] theorem e_inL2 : gInB (.d x) (.ol xs) = if SeqAt.shaped x = true ∧ SeqAt.shaped (.list xs) = true then .ok (xs.any fun z => PyData.eqv z x) else .no := by cases x <;> rfl
@[simp] theorem e_inL3 : gInB (.d x) (.bl xs) = if SeqAt.shaped x = true ∧ SeqAt.shaped (.list xs) = true then .ok (xs.any fun z => PyData.eqv z x) else .no := by cases x <;> rfl
@[simp] theorem e_is (a : RV) : gIs a (.d .none) = .ok (.d (.bool (isNone a))) := rfl
@[simp] theorem e_isNot (a : RV) : gIsNot a (.d .none) = .ok (.d (.bool (!isNone a))) := rfl
@[simp] theorem e_isN1 : isNone (.d .none) = true := rfl
@[simp] theorem e_isN2 (a : Int) : isNone (.d (.int a)) = false := rfl
@[simp] theorem e_isN3 : isNone (.d (.tuple xs)) = false := rfl
@[simp] theorem e_isN4 : isNone (.d (.list xs)) = false := rfl
@[simp] theorem e_isN5 : isNone (.ol xs) = false := rfl
@[simp] theorem e_isN6 : isNone (.bl xs) = false := rfl
@[simp] theorem e_isN7 (s) : isNone (.d (.str s)) = false := rfl
@[simp] theorem e_ixT (a : Int) : gIx (.d (.tuple xs)) (.d (.int a)) = (rsO (atI xs a)).bind fun d => .ok (.d d) := rfl
@[simp] theorem e_ixL (a : Int) : gIx (.d (.list xs)) (.d (.int a)) = (rsO (atI xs a)).bind fun d => .ok (.d d) := rfl
@[simp] theorem e_ixO (a : Int) : gIx (.ol xs) (.d (.int a)) = (rsO (atI xs a)).bind fun d => .ok (.d d) := rfl
@[simp] theorem e_ixB (a : Int) : gIx (.bl xs) (.d (.int a)) = (rsO (atI xs a)).bind fun d => .ok (.d d) := rfl
@[simp] theorem e_ixSc (a : Int) (ns) : gIx (.sc ns) (.d (.int a)) = (rsO (atI (ns.map .int) a)).bind fun d => .ok (.d d) := rfl
@[simp] theorem e_ixS (a : Int) (z : Str) : gIx (.d (.str z)) (.d (.int a)) = if z.length ≤ 1000000 then (rsO (atI z.cps.toList a)).bind fun c => .ok (.d (.str ⟨#[c]⟩)) else .no := rfl
@[simp] theorem e_lenT : gLen [.d (.tuple xs)] = .ok (.d (.int xs.length)) := rfl
@[simp] theorem e_lenL : gLen [.d (.list xs)] = .ok (.d (.int xs.length)) := rfl
@[simp] theorem e_lenO : gLen [.ol xs] = .ok (.d (.int xs.length)) := rfl
@[simp] theorem e_lenB : gLen [.bl xs] = .ok (.d (.int xs.length)) := rfl
@[simp] theorem e_lenSc (ns : List Int) : gLen [.sc ns] = .ok (.d (.int ns.length)) := by show okI _ = _; simp
@[simp] theorem e_lenS (z : Str) : gLen [.d (.str z)] = if z.length ≤ 1000000 then .ok (.d (.int z.length)) else .no := rfl
@[simp] theorem e_tupT : gTupleC [.d (.tuple xs)] = .ok (.d (.tuple xs)) := rfl
@[simp] theorem e_tupL : gTupleC [.d (.list xs)] = .ok (.d (.tuple xs)) := rfl
@[simp] theorem e_tupO : gTupleC [.ol xs] = .ok (.d (.tuple xs)) := rfl
@[simp] theorem e_tupB : gTupleC [.bl xs] = .ok (.d (.tuple xs)) := rfl
@[simp] theorem e_lisT : gListC [.d (.tuple xs)] = .ok (.ol xs) := rfl
@[simp] theorem e_lisL : gListC [.d (.list xs)] = .ok (.ol xs) := rfl
@[simp] theorem e_lisO : gListC [.ol xs] = .ok (.ol xs) := rfl
@[simp] theorem e_lisB : gListC [.bl xs] = .ok (.ol xs) := rfl
@[simp] theorem e_min2 (a b : Int) : gMin2 [.d (.int a), .d (.int b)] = .ok (.d (.int (if b < a then b else a))) := rfl
@[simp] theorem e_max2 (a b : Int) : gMax2 [.d (.int a), .d (.int b)] = .ok (.d (.int (if b > a then b else a))) := rfl
@[simp] theorem e_any (r : RV) : gAny [r] = (rsO r.qv).bind fun xs => (rsO (boolsD xs)).bind fun bs => okB (bs.any id) := rfl
@[simp] theorem e_all (r : RV) : gAll [r] = (rsO r.qv).bind fun xs => (rsO (boolsD xs)).bind fun bs => okB (bs.all id) := rfl
@[simp] theorem e_sum (r : RV) : gSum [r] = (rsO r.qv).bind fun xs => (rsO (intsD xs)).bind fun bs => okI bs.sum := rfl
@[simp] theorem e_sorted (r : RV) : gSorted [r] = (rsO r.qv).bind fun xs => (rsO (intsD xs)).bind fun ns => .ok (.ol ((isort ns).map .int)) := rfl
@[simp] theorem e_rev (r : RV) : gRev r = (rsO r.qv).bind fun xs => .ok (.ol xs.reverse) := rfl
theorem e_R1 {a : Int} (h : a.natAbs ≤ 1000000) : gR1 [.d (.int a)] = .ok (rngL 0 a.toNat) := if_pos h
theorem e_R1n {n : Nat} (h : n ≤ 1000000) : gR1 [.d (.int n)] = .ok (rngL 0 n) := e_R1 (a := (n : Int)) h
@[simp] theorem e_sl (l h) : cSl fa l h env = (fa env).bind fun r => (l env).bind fun lo => (h env).bind fun hi => gSl r lo hi := rfl
@[simp] theorem e_oN : oN env = .ok none := rfl
@[simp] theorem e_isi (T : String) (r : RV) : gIsi T r = (rsO (r.data.bind tyD)).bind fun t => (rsO (kitB t T)).bind okB := rfl
@[simp] theorem e_lc (src own tg t) : cLc src own tg t fa env = (src env).bind fun xs => if xs.length ≤ 1000000 then (lcF tg t fa (wipeE env own) xs).bind fun ds => .ok (.ol ds) else .no := rfl
@[simp] theorem e_wipe0 : wipeE env [] = env := rfl
@[simp] theorem e_wipe1 (is) : wipeE env (i :: is) = (wipeE env is).set i none := rfl
theorem e_unp (tg) : sUnp tg fa env = (fa env).out env fun r => match r.toD with
  | some x => (match tgE tg x env with | some env' => .nx env' | none => .no)
  | none => .no := rfl
theorem e_app : sApp i fa env = match env[i]? with
  | some (some (.ol xs)) => (fa env).out env fun r => (match r.toD with
    | some d => if xs.length ≤ 1000000 then .nx (env.set i (some (.ol (xs ++ [d])))) else .no
    | none => .no)
  | _ => .no := rfl
theorem e_V : cV i env = match env[i]? with
  | some (some r) => .ok r.bor
  | _ => .no := rfl
theorem e_retV : sRetV i env = match env[i]? with
  | some (some r) => (r.nb).out env .rt
  | _ => .no := rfl
end
theorem atI_lt {α : Type} {xs : List α} {i : Int} (h0 : 0 ≤ i) (h : i < xs.length) : atI xs i = xs[i.toNat]? := by
  unfold atI ixN
  rw [if_pos h0, if_pos h]
  rfl
@[simp] theorem atI_zero {α : Type} (x : α) (xs : List α) : atI (x :: xs) 0 = some x := by
  have h : 0 < (x :: xs).length := by simp
  rw [atI_lt (Int.le_refl 0) (by omega)]
  rfl
theorem rngL_eq (n : Nat) : rngL 0 n = (List.range n).map fun k : Nat => .int (k : Int) := by
  unfold rngL
  congr 1
  funext k
  simp
@[simp] theorem sh_int (i : Int) : SeqAt.shaped (.int i) = true := rfl
@[simp] theorem sh_none : SeqAt.shaped .none = true := rfl
@[simp] theorem sh_bool (b : Bool) : SeqAt.shaped (.bool b) = true := rfl
theorem can_ints : ∀ ns : List Int, PyData.canLayAll0 (ns.map .int) = true
  | [] => rfl
  | n :: ns => can_ints ns
theorem dep_ints : ∀ ns : List Int, PyData.depthAll (ns.map .int) = 0
  | [] => rfl
  | n :: ns => by rw [List.map_cons, PyData.depthAll, PyData.depth, dep_ints ns]; rfl
@[simp] theorem sh_tup (ns : List Int) : SeqAt.shaped (.tuple (ns.map .int)) = true := by
  unfold SeqAt.shaped
  rw [PyData.depth, dep_ints, PyData.canLay0, can_ints]
  rfl
@[simp] theorem sh_lst (ns : List Int) : SeqAt.shaped (.list (ns.map .int)) = true := by
  unfold SeqAt.shaped
  rw [PyData.depth, dep_ints, PyData.canLay0, can_ints]
  rfl
@[simp] theorem eqv_int (i j : Int) : PyData.eqv (.int i) (.int j) = decide (i = j) := by
  rw [PyData.eqv]
  by_cases h : i = j <;> simp [h]
theorem eqvAll_ints : ∀ xs ys : List Int, PyData.eqvAll (xs.map .int) (ys.map .int) = decide (xs = ys)
  | [], [] => rfl
  | [], _ :: _ => rfl
  | _ :: _, [] => rfl
  | x :: xs, y :: ys => by
    rw [List.map_cons, List.map_cons, PyData.eqvAll, eqvAll_ints xs ys, eqv_int]
    by_cases h : x = y <;> by_cases h2 : xs = ys <;> simp [h, h2]
@[simp] theorem eqv_tup (xs ys : List Int) : PyData.eqv (.tuple (xs.map .int)) (.tuple (ys.map .int)) = decide (xs = ys) := by rw [PyData.eqv, eqvAll_ints]
@[simp] theorem eqv_lst (xs ys : List Int) : PyData.eqv (.list (xs.map .int)) (.list (ys.map .int)) = decide (xs = ys) := by rw [PyData.eqv, eqvAll_ints]
theorem anyI (ns : List Int) (i : Int) : ((ns.map PyData.int).any fun z => PyData.eqv z (.int i)) = decide (i ∈ ns) := by
  rw [List.any_map]
  induction ns with
  | nil => rfl
  | cons n ns ih =>
    rw [List.any_cons, ih]
    simp only [Function.comp, eqv_int]
    by_cases h : n = i
    · simp [h]
    · by_cases h2 : i ∈ ns <;> simp [h, h2, Ne.symm h]
@[simp] theorem anyI' (ns : List Int) (i : Int) : (ns.any ((fun z => PyData.eqv z (.int i)) ∘ PyData.int)) = decide (i ∈ ns) := by rw [← List.any_map]; exact anyI ns i
end VL
namespace VL
open PySem PySem.Spec PyProof.Rows L2
section
variable {K : PySem.W.Frag} {ca : CA}
def gRep (a b : RV) : Rs RV := match b with
  | .d (.int k) => (rsO a.lv).bind fun xs => if k.natAbs ≤ 1000000 ∧ xs.length * k.toNat ≤ 1000000 then .ok (.ol (List.replicate k.toNat xs).flatten) else .no
  | _ => .no
theorem DqA.rep {F : Hp} {ds : List PyData} {vs : List V} (h : DqA K F vs ds) : ∀ k : Nat, DqA K F (List.replicate k vs).flatten (List.replicate k ds).flatten
  | 0 => .nil
  | k + 1 => by
    rw [List.replicate_succ, List.replicate_succ, List.flatten_cons, List.flatten_cons]
    exact h.append (DqA.rep h k)
theorem s_rep : Op2S K ca rRep gRep := by
  intro W σ F0 H0 F H v1 v2 a b Q gr h1 h2 p
  unfold gRep at p
  split at p
  · rename_i k
    cases h2
    cases e : a.lv with
    | none => rw [e] at p; exact p.elim
    | some xs =>
      rw [e] at p
      simp only [rsO_some, Rs.bind_ok] at p
      split at p
      · rename_i hk
        obtain ⟨p1, vs, rfl, a1, q1⟩ := lv_ok gr.cfg.sub h1 e
        refine ⟨p1, k, vs, rfl, rfl, a1, by omega, by omega, ?_, fun l hl => ?_⟩
        · rw [q1.length]; exact Nat.le_of_lt (million hk.2)
        · have g2 := Grow.newO gr.cfg (.lst (List.replicate k.toNat vs).flatten) hl (fun _ z => by cases z)
          exact p _ _ _ (gr.trans g2) ⟨l, _, rfl, none_n gr.hh hl, same_none gr.cfg.sub hl, upd_same, q1.rep k.toNat⟩
      · exact p.elim
  · exact p.elim
end
section
variable {ca : CA} {W : WX} {X : Cx} {a b c e : Expr} {es : List Expr} {fa fb fc : VEnv → Rs RV} {pos : Pos} {st : Stmt}
def sNo : VEnv → Out := fun _ => .no
def iAny (K : PySem.W.Frag) (tl : TE) : TI := fun σ H R => tl σ H fun x H1 => ∃ a, x = .ref a ∧ (((∃ xs, SqL K H1 a xs) ∧ R (Itl K a) H1) ∨ ((∃ xs, SqT K H1 a xs) ∧ R (Itt K a) H1))
theorem pi_any {tg : Expr} {tl : TE} (hl : PE X e tl) : PI X tg e (iAny X.K tl) := by
  refine ⟨fun pns s0 σ H R I hyp => ?_⟩
  refine thn (hl.run pns s0 σ H _ I hyp) fun v s1 ⟨x, H1, I1, r1, a, ex, alt⟩ => ?_
  subst ex
  cases r1
  have fresh : ∀ b ∈ [s1.heap.objs.size], b = s1.heap.objs.size := fun b hb => by simpa using hb
  rcases alt with ⟨⟨xs, hq⟩, q⟩ | ⟨⟨xs, hq⟩, q⟩
  · obtain ⟨its, rv, pl, hz⟩ := I1.list hq
    refine wpAny_pyIter_list pl.isList ⟨s1.heap.objs.size, [s1.heap.objs.size], _, _, H1, rfl, I1.kept (t' := s1.toks) fun _ _ k => Heap.get?_push_of_some _ k, turn_list a _, ⟨_, Heap.get?_push_size _ rfl, rfl, rfl⟩, fun b hb => ?_, q⟩
    have eb := fresh b hb
    subst eb
    exact I1.fpOk (Nat.le_refl _) (I1.hok.fresh (Nat.le_refl _))
  · obtain ⟨its, rv, pl, hz⟩ := I1.tuple hq
    have pt : s1.heap.IsTuple a its.toArray := pl
    refine wpAny_pyIter_tuple pt ⟨s1.heap.objs.size, [s1.heap.objs.size], _, _, H1, rfl, I1.kept (t' := s1.toks) fun _ _ k => Heap.get?_push_of_some _ k, turn_tuple a _, ⟨_, Heap.get?_push_size _ rfl, rfl, rfl⟩, fun b hb => ?_, q⟩
    have eb := fresh b hb
    subst eb
    exact I1.fpOk (Nat.le_refl _) (I1.hok.fresh (Nat.le_refl _))
def gAq : RV → Rs (List PyData)
  | .d (.tuple xs) => .ok xs
  | r => gL r
def gAqb : RV → Rs (List PyData)
  | .d (.tuple xs) => .ok xs
  | r => gLb r
def iA (fe : VEnv → Rs RV) : VEnv → Rs (List PyData) := fun env => (fe env).bind gAq
def iAb (fe : VEnv → Rs RV) : VEnv → Rs (List PyData) := fun env => (fe env).bind gAqb
theorem vi_any {tg : Expr} (h : VE ca W X e fa) : VI ca W X tg e (iA fa) := by
  obtain ⟨t, p, s⟩ := h
  refine ⟨_, pi_any p, fun B F env σ H R st q => ?_⟩
  show t σ H fun x H1 => ∃ a, x = .ref a ∧ (((∃ xs, SqL X.K H1 a xs) ∧ R (Itl X.K a) H1) ∨ ((∃ xs, SqT X.K H1 a xs) ∧ R (Itt X.K a) H1))
  refine seqE (PostI X.K ca W σ F H R) s st q (fun _ _ h => h) (fun h => h) fun r F1 H1 v p1 g1 q1 => ?_
  cases r with
  | d x =>
    cases x with
    | list xs =>
      cases q1 with
      | lst h1 h2 => exact ⟨_, rfl, .inl ⟨⟨_, SqL.of (g1.cfg.sub _ _ h1)⟩, p1 _ F1 H1 _ g1 h2 (jw_list (SqL.of h1))⟩⟩
    | tuple xs =>
      cases q1 with
      | tup h1 h2 => exact ⟨_, rfl, .inr ⟨⟨_, same_seqT g1.cfg.sub h1.1⟩, p1 _ F1 H1 _ g1 h2 (jw_tup h1.1)⟩⟩
    | _ => exact p1.elim
  | ol xs =>
    obtain ⟨p, vs, rfl, n0, f, hp, q2⟩ := q1
    have g2 := g1.freeze n0 f hp
    have s2 : Same F1 (upd F1 p (.lst vs)) := fun b u k => by rw [upd_ne (ne_of_none k f)]; exact k
    exact ⟨p, rfl, .inl ⟨⟨_, SqL.of hp⟩, p1 _ _ H1 vs g2 (DqA.mono s2 _ _ q2) (jw_list (SqL.of upd_same))⟩⟩
  | sc ns =>
    obtain ⟨a, rfl, q2⟩ := q1
    exact ⟨a, rfl, .inl ⟨⟨_, g1.cfg.sub.seq q2⟩, p1 _ F1 H1 _ g1 (DqA.of_ints ns) (jw_list q2)⟩⟩
  | _ => exact p1.elim
@[simp] theorem e_iA (env : VEnv) : iA fa env = (fa env).bind gAq := rfl
@[simp] theorem e_iAb (env : VEnv) : iAb fa env = (fa env).bind gAqb := rfl
@[simp] theorem e_gAq1 (xs) : gAq (.d (.tuple xs)) = .ok xs := rfl
@[simp] theorem e_gAq2 (xs) : gAq (.d (.list xs)) = .ok xs := rfl
@[simp] theorem e_gAq3 (xs) : gAq (.ol xs) = .ok xs := rfl
@[simp] theorem e_gAqb1 (xs) : gAqb (.d (.tuple xs)) = .ok xs := rfl
@[simp] theorem e_gAqb2 (xs) : gAqb (.d (.list xs)) = .ok xs := rfl
@[simp] theorem e_gAqb3 (xs) : gAqb (.ol xs) = .ok xs := rfl
@[simp] theorem e_gAqb4 (xs) : gAqb (.bl xs) = .ok xs := rfl
@[simp] theorem e_no (env : VEnv) : sNo env = .no := rfl
theorem e_rep {xs : List PyData} {k : Int} {r : RV} (h : r.lv = some xs) (h1 : k.natAbs ≤ 1000000) (h2 : xs.length * k.toNat ≤ 1000000) : gRep r (.d (.int k)) = .ok (.ol (List.replicate k.toNat xs).flatten) := by
  show (rsO r.lv).bind _ = _
  rw [h]
  simp only [rsO_some, Rs.bind_ok]
  rw [if_pos ⟨h1, h2⟩]
theorem e_store (i : Nat) (fi fe : VEnv → Rs RV) (env : VEnv) : sStore i fi fe env = match env[i]? with
  | some (some (.ol xs)) => (fe env).out env fun r => (fi env).out env fun ix => (match r.toD, ix with
    | some d, .d (.int k) => (match ixN xs.length k with
      | some j => .nx (env.set i (some (.ol (xs.set j d))))
      | none => .no)
    | _, _ => .no)
  | _ => .no := rfl
def cChI (g g' : RV → RV → Rs RV) (fc : VEnv → Rs RV) (env : VEnv) : RV → RV → Rs RV
  | .d (.int m), .d (.int n) => (g (.d (.int m)) (.d (.int n))).bind fun r => (asB r).bind fun k => if k = true then (fc env).bind fun z => g' (.d (.int n)) z else .ok (.d (.bool false))
  | _, _ => .no
def cCh (g g' : RV → RV → Rs RV) (fa fb fc : VEnv → Rs RV) : VEnv → Rs RV := fun env => (fa env).bind fun x => (fb env).bind fun y => cChI g g' fc env x y
@[simp] theorem e_cCh (g g') (env : VEnv) : cCh g g' fa fb fc env = (fa env).bind fun x => (fb env).bind fun y => cChI g g' fc env x y := rfl
@[simp] theorem e_cChI (g g') (env : VEnv) (m n : Int) : cChI g g' fc env (.d (.int m)) (.d (.int n)) = (g (.d (.int m)) (.d (.int n))).bind fun r => (asB r).bind fun k => if k = true then (fc env).bind fun z => g' (.d (.int n)) z else .ok (.d (.bool false)) := rfl
end
end VL
namespace VL
open PySem PySem.Spec PyProof.Rows L2
theorem e_fzE (i : Nat) (env : VEnv) : fzE i env = match env[i]? with
  | some (some (.ol xs)) => env.set i (some (.d (.list xs)))
  | _ => env := rfl
theorem tyD_list (xs) : tyD (.list xs) = some "list" := rfl
theorem tyD_tuple (xs) : tyD (.tuple xs) = some "tuple" := rfl
theorem tyD_int (a) : tyD (.int a) = some "int" := rfl
theorem kitB_ll : kitB "list" "list" = some true := by decide +kernel
theorem kitB_tt : kitB "tuple" "tuple" = some true := by decide +kernel
theorem kitB_lt : kitB "list" "tuple" = some false := by decide +kernel
theorem kitB_tl : kitB "tuple" "list" = some false := by decide +kernel
theorem kitB_ii : kitB "int" "int" = some true := by decide +kernel
theorem atI_cons {α : Type} (xs : List α) (n : Nat) (h : n < xs.length) : atI xs (n : Int) = xs[n]? := by
  rw [atI_lt (by omega) (by omega)]; rfl
theorem e_at1 {α : Type} (x0 x1 : α) (xs : List α) : atI (x0 :: x1 :: xs) 1 = some x1 := atI_cons _ 1 (by simp)
theorem e_at2 {α : Type} (x0 x1 x2 : α) (xs : List α) : atI (x0 :: x1 :: x2 :: xs) 2 = some x2 := atI_cons _ 2 (by simp)
theorem e_at3 {α : Type} (x0 x1 x2 x3 : α) (xs : List α) : atI (x0 :: x1 :: x2 :: x3 :: xs) 3 = some x3 := atI_cons _ 3 (by simp)
theorem e_at4 {α : Type} (x0 x1 x2 x3 x4 : α) (xs : List α) : atI (x0 :: x1 :: x2 :: x3 :: x4 :: xs) 4 = some x4 := atI_cons _ 4 (by simp)
theorem e_at5 {α : Type} (x0 x1 x2 x3 x4 x5 : α) (xs : List α) : atI (x0 :: x1 :: x2 :: x3 :: x4 :: x5 :: xs) 5 = some x5 := atI_cons _ 5 (by simp)
theorem e_at6 {α : Type} (x0 x1 x2 x3 x4 x5 x6 : α) (xs : List α) : atI (x0 :: x1 :: x2 :: x3 :: x4 :: x5 :: x6 :: xs) 6 = some x6 := atI_cons _ 6 (by simp)
theorem e_at7 {α : Type} (x0 x1 x2 x3 x4 x5 x6 x7 : α) (xs : List α) : atI (x0 :: x1 :: x2 :: x3 :: x4 :: x5 :: x6 :: x7 :: xs) 7 = some x7 := atI_cons _ 7 (by simp)
theorem e_at8 {α : Type} (x0 x1 x2 x3 x4 x5 x6 x7 x8 : α) (xs : List α) : atI (x0 :: x1 :: x2 :: x3 :: x4 :: x5 :: x6 :: x7 :: x8 :: xs) 8 = some x8 := atI_cons _ 8 (by simp)
theorem e_at9 {α : Type} (x0 x1 x2 x3 x4 x5 x6 x7 x8 x9 : α) (xs : List α) : atI (x0 :: x1 :: x2 :: x3 :: x4 :: x5 :: x6 :: x7 :: x8 :: x9 :: xs) 9 = some x9 := atI_cons _ 9 (by simp)
theorem e_atm {α : Type} (xs : List α) (x : α) : atI (xs ++ [x]) (-1) = some x := by
  have h : ixN (xs ++ [x]).length (-1) = some xs.length := by
    unfold ixN
    rw [if_neg (by decide), if_pos (by simp; omega)]
    congr 1
    simp
    omega
  unfold atI
  rw [h]
  simp
theorem eqv_bool (a b : Bool) : PyData.eqv (.bool a) (.bool b) = (a == b) := by cases a <;> cases b <;> rfl
theorem eqv_none : PyData.eqv .none .none = true := rfl
theorem tyD_bool (a) : tyD (.bool a) = some "bool" := rfl
theorem tyD_str (a) : tyD (.str a) = some "str" := rfl
theorem tyD_none : tyD .none = some "NoneType" := rfl
theorem kitB_bb : kitB "bool" "bool" = some true := by decide +kernel
theorem kitB_nb : kitB "NoneType" "bool" = some false := by decide +kernel
theorem kitB_bi : kitB "bool" "int" = some true := by decide +kernel
theorem kitB_ib : kitB "int" "bool" = some false := by decide +kernel
theorem kitB_nl : kitB "NoneType" "list" = some false := by decide +kernel
theorem kitB_nt : kitB "NoneType" "tuple" = some false := by decide +kernel
theorem e_andB (a b : Bool) : (if a = true then Rs.ok (RV.d (.bool b)) else Rs.ok (RV.d (.bool false))) = .ok (.d (.bool (a && b))) := by cases a <;> rfl
theorem e_orB (a b : Bool) : (if a = true then Rs.ok (RV.d (.bool true)) else Rs.ok (RV.d (.bool b))) = .ok (.d (.bool (a || b))) := by cases a <;> rfl
theorem e_andR (a b : Bool) : (if a = true then Rs.ok b else Rs.ok false) = .ok (a && b) := by cases a <;> rfl
theorem e_orR (a b : Bool) : (if a = true then Rs.ok true else Rs.ok b) = .ok (a || b) := by cases a <;> rfl
end VL
namespace VL
open PySem PySem.Spec PyProof.Rows L2
section
variable {ca : CA} {W : WX} {X : Cx} {e : Expr} {es : List Expr} {pos kpos : Pos} {nm : Option Str} {kws : List Keyword}
def cAK (h : List RV → List RV → Rs RV) (f g : VEnv → Rs (List RV)) : VEnv → Rs RV := fun env => (f env).bind fun rs => (g env).bind fun zs => h rs zs
@[simp] theorem e_cAK (h) (f g : VEnv → Rs (List RV)) (env : VEnv) : cAK h f g env = (f env).bind fun rs => (g env).bind fun zs => h rs zs := rfl
end
end VL
namespace VL
open PySem PySem.Spec PyProof.Rows L2
abbrev tk (P : Program) (w : World) : HeapKind P w (List Int) := tupleKind (intKind P w)
end VL
namespace VL
open PySem PySem.Spec PyProof.Rows L2
section
variable {κ : Type} [DecidableEq κ]
def dGet (kvs : List (κ × PyData)) (k : κ) : Option PyData := (kvs.find? fun p => decide (p.1 = k)).map (·.2)
def dPut (kvs : List (κ × PyData)) (k : κ) (d : PyData) : List (κ × PyData) :=
  if (kvs.any fun p => decide (p.1 = k)) = true then kvs.map (fun p => if p.1 = k then (p.1, d) else p) else kvs ++ [(k, d)]
def dDrop (kvs : List (κ × PyData)) (k : κ) : List (κ × PyData) := kvs.filter fun p => decide (p.1 ≠ k)
@[simp] theorem dGet_nil (k : κ) : dGet [] k = none := rfl
theorem dGet_cons (p : κ × PyData) (kvs : List (κ × PyData)) (k : κ) : dGet (p :: kvs) k = if p.1 = k then some p.2 else dGet kvs k := by
  unfold dGet
  by_cases h : p.1 = k <;> simp [List.find?_cons, h]
theorem dGet_any (kvs : List (κ × PyData)) (k : κ) : (kvs.any fun p => decide (p.1 = k)) = (dGet kvs k).isSome := by
  induction kvs with
  | nil => rfl
  | cons p kvs ih =>
    rw [List.any_cons, dGet_cons, ih]
    by_cases h : p.1 = k <;> simp [h]
end
def keyD : PyData → Option Key
  | .int i => some (.inl i)
  | .str x => some (.inr x)
  | _ => none
def keyTD : PyData → Option (List Int)
  | .tuple xs => intsD xs
  | _ => none
section
variable {K : PySem.W.Frag} {ca : CA} {H0 F H : Hp} {v : V} {r : RV}
theorem KTl.len {xs : List (List Int × Addr × Value)} {kvs : List (List Int × PyData)} (h : KTl K F xs kvs) : xs.length = kvs.length := Paired.length h
theorem atKey_cons (p : List Int × Addr × Value) (xs : List (List Int × Addr × Value)) (k : List Int) : atKey (p :: xs) k = if p.1 = k then some p.2 else atKey xs k := by
  unfold atKey
  by_cases h : p.1 = k <;> simp [List.find?_cons, h]
theorem KTl.at {xs : List (List Int × Addr × Value)} {kvs : List (List Int × PyData)} (h : KTl K F xs kvs) (k : List Int) : (atKey xs k = none ∧ dGet kvs k = none) ∨ ∃ q d v, atKey xs k = some q ∧ dGet kvs k = some d ∧ RelV v q.2 ∧ Dq K F v d := by
  induction h with
  | nil => exact .inl ⟨rfl, rfl⟩
  | @cons p q ps qs h1 h2 ih =>
    rw [atKey_cons, dGet_cons, ← h1.1]
    by_cases e : p.1 = k
    · rw [if_pos e, if_pos e]
      obtain ⟨v, r1, r2⟩ := h1.2.2
      exact .inr ⟨_, _, v, rfl, rfl, r1, r2⟩
    · rw [if_neg e, if_neg e]; exact ih
theorem KTl.repl {xs : List (List Int × Addr × Value)} {kvs : List (List Int × PyData)} (h : KTl K F xs kvs) (k : List Int) {u : Value} {w : V} {d : PyData} (r : RelV w u) (dq : Dq K F w d) : KTl K F (xs.map (putAt k u)) (kvs.map fun p => if p.1 = k then (p.1, d) else p) := by
  induction h with
  | nil => exact .nil
  | @cons p q ps qs h1 h2 ih =>
    rw [List.map_cons, List.map_cons]
    refine .cons ?_ ih
    unfold putAt
    by_cases e : p.1 = k
    · rw [if_pos e, if_pos (h1.1.symm.trans e)]; exact ⟨h1.1, h1.2.1, w, r, dq⟩
    · rw [if_neg e, if_neg (fun z => e (h1.1.trans z))]; exact h1
theorem KTl.put {xs : List (List Int × Addr × Value)} {kvs : List (List Int × PyData)} (h : KTl K F xs kvs) (k : List Int) {b : Addr} {u : Value} {w : V} {d : PyData} (hb : SqN K F b (k.map V.int)) (r : RelV w u) (q : Dq K F w d) : KTl K F (storedH xs k b u) (dPut kvs k d) := by
  have e : (kvs.any fun p => decide (p.1 = k)) = (atKey xs k).isSome := by
    rw [dGet_any]
    rcases h.at k with ⟨a, b⟩ | ⟨q, d, v, a, b, _⟩ <;> rw [a, b] <;> rfl
  unfold storedH dPut
  rw [e]
  by_cases c : (atKey xs k).isSome = true
  · rw [if_pos c, if_pos c]; exact h.repl k r q
  · rw [if_neg c, if_neg c]; exact Paired.snoc h ⟨rfl, hb, w, r, q⟩
theorem KD.at {xs : List (Key × V)} {kvs : List (Key × PyData)} (h : KD K F xs kvs) (k : Key) : (valV xs k = none ∧ dGet kvs k = none) ∨ ∃ v d, valV xs k = some v ∧ dGet kvs k = some d ∧ Dq K F v d := by
  induction h with
  | nil => exact .inl ⟨rfl, rfl⟩
  | @cons p q ps qs h1 h2 ih =>
    rw [dGet_cons, ← h1.1]
    by_cases e : p.1 = k
    · rw [if_pos e, valV_pos e]; exact .inr ⟨_, _, rfl, rfl, h1.2⟩
    · rw [if_neg e, valV_neg e]; exact ih
theorem KD.put {xs : List (Key × V)} {kvs : List (Key × PyData)} (h : KD K F xs kvs) (k : Key) {w : V} {d : PyData} (q : Dq K F w d) : KD K F (putK xs k w) (dPut kvs k d) := by
  have e : (kvs.any fun p => decide (p.1 = k)) = (xs.any fun p => decide (p.1 = k)) := by
    rw [dGet_any, valV_any]
    rcases h.at k with ⟨a, b⟩ | ⟨q, d, a, b, _⟩ <;> rw [a, b] <;> rfl
  unfold putK dPut
  rw [e]
  by_cases c : (xs.any fun p => decide (p.1 = k)) = true
  · rw [if_pos c, if_pos c]
    clear e c
    induction h with
    | nil => exact .nil
    | @cons p r ps qs h1 h2 ih =>
      rw [List.map_cons, List.map_cons]
      refine .cons ?_ ih
      by_cases e : p.1 = k
      · rw [if_pos e, if_pos (h1.1.symm.trans e)]; exact ⟨h1.1, q⟩
      · rw [if_neg e, if_neg (fun z => e (h1.1.trans z))]; exact h1
  · rw [if_neg c, if_neg c]; exact Paired.snoc h ⟨rfl, q⟩
theorem KD.drop {xs : List (Key × V)} {kvs : List (Key × PyData)} (h : KD K F xs kvs) (k : Key) : KD K F (dropK xs k) (dDrop kvs k) := by
  unfold dropK dDrop
  induction h with
  | nil => exact .nil
  | @cons p r ps qs h1 h2 ih =>
    rw [List.filter_cons, List.filter_cons, ← h1.1]
    by_cases e : p.1 = k
    · simp only [e, ne_eq, not_true, decide_false, Bool.false_eq_true, if_false]; exact ih
    · simp only [e, ne_eq, not_false_eq_true, decide_true, if_true]; exact .cons h1 ih
def RV.dk : RV → Option (List (Key × PyData))
  | .od kvs => some kvs
  | .bd kvs => some kvs
  | _ => none
def RV.dt : RV → Option (List (List Int × PyData))
  | .ot kvs => some kvs
  | .bt kvs => some kvs
  | _ => none
def RV.sd : RV → Option PyData
  | .d x => some x
  | _ => none
def gGetDK (kvs : List (Key × PyData)) (b : RV) : Rs (Option PyData) := (rsO (b.sd.bind keyD)).bind fun k => .ok (dGet kvs k)
def gGetDT (kvs : List (List Int × PyData)) (b : RV) : Rs (Option PyData) := (rsO (b.sd.bind keyTD)).bind fun k => .ok (dGet kvs k)
def gAt (a b : RV) : Rs (Option PyData) := match a.dk with
  | some kvs => gGetDK kvs b
  | none => (match a.dt with
    | some kvs => gGetDT kvs b
    | none => .no)
def gIxD (a b : RV) : Rs RV := (gAt a b).bind fun o => (rsO o).bind fun d => .ok (.d d)
def gInD (a b : RV) : Rs RV := (gAt b a).bind fun o => okB o.isSome
def gNotInD (a b : RV) : Rs RV := (gAt b a).bind fun o => okB (!o.isSome)
end
section
variable {ca : CA} {W : WX} {X : Cx} {a b e : Expr} {es : List Expr} {fa fb fc : VEnv → Rs RV} {pos apos cpos : Pos}
def cDT : VEnv → Rs RV := fun _ => .ok (.ot [])
def cDK : VEnv → Rs RV := fun _ => .ok (.od [])
def cDisp1 (fa fb : VEnv → Rs RV) : VEnv → Rs RV := fun env => (fa env).bind fun x => (fb env).bind fun y => (rsO (x.sd.bind keyTD)).bind fun k => (rsO y.toD).bind fun d => .ok (.ot [(k, d)])
def cDispS (x y z w : Str) : VEnv → Rs RV := fun _ => .ok (.od [(.inr x, .str y), (.inr z, .str w)])
def stR (r0 : RV) (ix : RV) (d : PyData) : Rs RV := match r0 with
  | .ol xs => (match ix with
    | .d (.int k) => (rsO (ixN xs.length k)).bind fun j => .ok (.ol (xs.set j d))
    | _ => .no)
  | .od kvs => (rsO (ix.sd.bind keyD)).bind fun k => if kvs.length ≤ 1000000 then .ok (.od (dPut kvs k d)) else .no
  | .ot kvs => (rsO (ix.sd.bind keyTD)).bind fun k => if kvs.length ≤ 1000000 then .ok (.ot (dPut kvs k d)) else .no
  | _ => .no
def sStoreA (i : Nat) (fi fe : VEnv → Rs RV) : VEnv → Out := fun env => match env[i]? with
  | some (some r0) => (fe env).out env fun r => (fi env).out env fun ix => (rsO r.toD).out env fun d => (stR r0 ix d).out env fun r1 => .nx (env.set i (some r1))
  | _ => .no
def sDel (i : Nat) (fi : VEnv → Rs RV) : VEnv → Out := fun env => match env[i]? with
  | some (some (.od kvs)) => (fi env).out env fun ix => (rsO (ix.sd.bind keyD)).out env fun k => if (dGet kvs k).isSome = true then .nx (env.set i (some (.od (dDrop kvs k)))) else .no
  | _ => .no
def cGet1 (fa fb : VEnv → Rs RV) : VEnv → Rs RV := fun env => (fa env).bind fun x => match x.dk with
  | some kvs => (fb env).bind fun y => (gGetDK kvs y).bind fun o => .ok (.d (o.getD .none))
  | none => (match x.dt with
    | some kvs => (fb env).bind fun y => (gGetDT kvs y).bind fun o => .ok (.d (o.getD .none))
    | none => .no)
def cGet2 (fa fb fc : VEnv → Rs RV) : VEnv → Rs RV := fun env => (fa env).bind fun x => match x.dk with
  | some kvs => (fb env).bind fun y => (fc env).bind fun z => (rsO z.sd).bind fun d => (gGetDK kvs y).bind fun o => .ok (.d (o.getD d))
  | none => (match x.dt with
    | some kvs => (fb env).bind fun y => (fc env).bind fun z => (rsO z.sd).bind fun d => (gGetDT kvs y).bind fun o => .ok (.d (o.getD d))
    | none => .no)
variable (f : VEnv → Out) (env : VEnv) (i : Nat) (x y : PyData) (kvs : List (Key × PyData)) (kts : List (List Int × PyData))
theorem e_aug (g : RV → RV → Rs RV) : sAug i g fa env = match env[i]? with
  | some (some r0) => (fa env).out env fun r => (g r0.bor r).out env fun z => putS i z env
  | _ => .no := rfl
theorem e_decT {h : Decidable True} : @decide True h = true := by simp
theorem e_decF {h : Decidable False} : @decide False h = false := by simp
theorem e_cDispS (x y z w : Str) : cDispS x y z w env = .ok (.od [(.inr x, .str y), (.inr z, .str w)]) := rfl
theorem e_cDT : cDT env = .ok (.ot []) := rfl
theorem e_cDK : cDK env = .ok (.od []) := rfl
theorem e_cDisp1 : cDisp1 fa fb env = (fa env).bind fun x => (fb env).bind fun y => (rsO (x.sd.bind keyTD)).bind fun k => (rsO y.toD).bind fun d => .ok (.ot [(k, d)]) := rfl
theorem e_storeA (fi fe : VEnv → Rs RV) : sStoreA i fi fe env = match env[i]? with
  | some (some r0) => (fe env).out env fun r => (fi env).out env fun ix => (rsO r.toD).out env fun d => (stR r0 ix d).out env fun r1 => .nx (env.set i (some r1))
  | _ => .no := rfl
theorem e_stR1 (xs : List PyData) (k : Int) : stR (.ol xs) (.d (.int k)) x = (rsO (ixN xs.length k)).bind fun j => .ok (.ol (xs.set j x)) := rfl
theorem e_stR2 (r : RV) : stR (.od kvs) r x = (rsO (r.sd.bind keyD)).bind fun k => if kvs.length ≤ 1000000 then .ok (.od (dPut kvs k x)) else .no := rfl
theorem e_stR3 (r : RV) : stR (.ot kts) r x = (rsO (r.sd.bind keyTD)).bind fun k => if kts.length ≤ 1000000 then .ok (.ot (dPut kts k x)) else .no := rfl
theorem e_sd1 : (RV.d x).sd = some x := rfl
theorem e_keyD1 (k : Int) : keyD (.int k) = some (.inl k) := rfl
theorem e_keyD2 (k : Str) : keyD (.str k) = some (.inr k) := rfl
theorem e_keyTD (xs : List PyData) : keyTD (.tuple xs) = intsD xs := rfl
theorem e_intsD (ns : List Int) : intsD (ns.map .int) = some ns := intsD_map ns
theorem e_intsD0 : intsD [] = some [] := rfl
theorem e_borT : (RV.ot kts).bor = .bt kts := rfl
theorem e_borT2 : (RV.bt kts).bor = .bt kts := rfl
theorem e_borK : (RV.od kvs).bor = .bd kvs := rfl
theorem e_borK2 : (RV.bd kvs).bor = .bd kvs := rfl
theorem e_argT : (RV.ot kts).arg = .bt kts := rfl
theorem e_argT2 : (RV.bt kts).arg = .bt kts := rfl
theorem e_argK : (RV.od kvs).arg = .bd kvs := rfl
theorem e_argK2 : (RV.bd kvs).arg = .bd kvs := rfl
theorem e_nbT : (RV.ot kts).nb = .ok (.ot kts) := rfl
theorem e_nbK : (RV.od kvs).nb = .ok (.od kvs) := rfl
theorem e_putT : putS i (.ot kts) env = if i < env.length then .nx (env.set i (some (.ot kts))) else .no := rfl
theorem e_putK : putS i (.od kvs) env = if i < env.length then .nx (env.set i (some (.od kvs))) else .no := rfl
theorem e_gAt1 (b : RV) : gAt (.bt kts) b = gGetDT kts b := rfl
theorem e_gAt2 (b : RV) : gAt (.bd kvs) b = gGetDK kvs b := rfl
theorem e_gAt3 (b : RV) : gAt (.od kvs) b = gGetDK kvs b := rfl
theorem e_gAt4 (b : RV) : gAt (.ot kts) b = gGetDT kts b := rfl
theorem e_gGetDK (b : RV) : gGetDK kvs b = (rsO (b.sd.bind keyD)).bind fun k => .ok (dGet kvs k) := rfl
theorem e_gGetDT (b : RV) : gGetDT kts b = (rsO (b.sd.bind keyTD)).bind fun k => .ok (dGet kts k) := rfl
theorem e_gIxD (a b : RV) : gIxD a b = (gAt a b).bind fun o => (rsO o).bind fun d => .ok (.d d) := rfl
theorem e_gInD (a b : RV) : gInD a b = (gAt b a).bind fun o => okB o.isSome := rfl
theorem e_gNotInD (a b : RV) : gNotInD a b = (gAt b a).bind fun o => okB (!o.isSome) := rfl
theorem e_cGet1 : cGet1 fa fb env = (fa env).bind fun x => match x.dk with
  | some kvs => (fb env).bind fun y => (gGetDK kvs y).bind fun o => .ok (.d (o.getD .none))
  | none => (match x.dt with
    | some kvs => (fb env).bind fun y => (gGetDT kvs y).bind fun o => .ok (.d (o.getD .none))
    | none => .no) := rfl
theorem e_cGet2 : cGet2 fa fb fc env = (fa env).bind fun x => match x.dk with
  | some kvs => (fb env).bind fun y => (fc env).bind fun z => (rsO z.sd).bind fun d => (gGetDK kvs y).bind fun o => .ok (.d (o.getD d))
  | none => (match x.dt with
    | some kvs => (fb env).bind fun y => (fc env).bind fun z => (rsO z.sd).bind fun d => (gGetDT kvs y).bind fun o => .ok (.d (o.getD d))
    | none => .no) := rfl
theorem e_dk1 : (RV.bd kvs).dk = some kvs := rfl
theorem e_dk2 : (RV.od kvs).dk = some kvs := rfl
theorem e_dk3 : (RV.bt kts).dk = none := rfl
theorem e_dk4 : (RV.ot kts).dk = none := rfl
theorem e_dt1 : (RV.bt kts).dt = some kts := rfl
theorem e_dt2 : (RV.ot kts).dt = some kts := rfl
theorem e_del (fi : VEnv → Rs RV) : sDel i fi env = match env[i]? with
  | some (some (.od kvs)) => (fi env).out env fun ix => (rsO (ix.sd.bind keyD)).out env fun k => if (dGet kvs k).isSome = true then .nx (env.set i (some (.od (dDrop kvs k)))) else .no
  | _ => .no := rfl
end
end VL
namespace VL
open PySem PySem.Spec PyProof.Rows L2
def Hd0 (i : Nat) (p q : Addr) (σ : L2.St) (H : Hp) : Prop := σ[i]? = some (some (.ref p)) ∧ p ≠ q ∧ ∃ vs us, H p = some (.lst (.ref q :: vs)) ∧ V.ref q ∉ vs ∧ H q = some (.lst us)
theorem Hd0.grow {i : Nat} {p q : Addr} {σ : L2.St} {F H F' H' : Hp} (h : Hd0 i p q σ H) (g : Grow F H F' H') : Hd0 i p q σ H' := by
  obtain ⟨h1, ne, vs, us, h2, h3, h4⟩ := h
  exact ⟨h1, ne, vs, us, g.hh _ _ h2, h3, g.hh _ _ h4⟩
def PostR (K : PySem.W.Frag) (ca : CA) (B : Base) (F0 : Hp) (D : Ends) (i : Nat) (p q : Addr) : Out → Prop
  | .nx env => ∀ F σ H, Same F0 F → StOk K ca B F env σ H → Hd0 i p q σ H → D.nx σ H
  | .bk env => ∀ F σ H, Same F0 F → StOk K ca B F env σ H → Hd0 i p q σ H → D.bk σ H
  | .ct env => ∀ F σ H, Same F0 F → StOk K ca B F env σ H → Hd0 i p q σ H → D.ct σ H
  | _ => False
theorem PostR.mono {K : PySem.W.Frag} {ca : CA} {B : Base} {F0 F1 : Hp} {D : Ends} {i : Nat} {p q : Addr} {o : Out} (e : Same F0 F1) (h : PostR K ca B F0 D i p q o) : PostR K ca B F1 D i p q o := by
  cases o with
  | nx env => exact fun F σ H s st z => h F σ H (e.trans s) st z
  | bk env => exact fun F σ H s st z => h F σ H (e.trans s) st z
  | ct env => exact fun F σ H s st z => h F σ H (e.trans s) st z
  | _ => exact h
def SndR (K : PySem.W.Frag) (ca : CA) (i : Nat) (t : TS) (f : VEnv → Out) : Prop := ∀ B F env σ H D p q, StOk K ca B F env σ H → Hd0 i p q σ H → PostR K ca B F D i p q (f env) → t D σ H
section
variable {ca : CA} {W : WX} {X : Cx} {a b e : Expr} {es : List Expr} {fa fb : VEnv → Rs RV} {pos : Pos} {f : VEnv → Out}
def sAppO (i : Nat) (fe : VEnv → Rs RV) : VEnv → Out := fun env => match env[i]?, fe env with
  | some (some (.ol xs)), .ok (.ol ys) => if xs.length ≤ 1000000 then .nx (env.set i (some (.ol (xs ++ [.list ys])))) else .no
  | _, _ => .no
theorem vr_app (i : Nat) {x : Str} {p1 p2 p3 : Pos} (he : VE ca W X e fa) (hN : X.N[i]? = some x := by rfl) (hv : Vis X.env.scope x := by first | exact Or.inl rfl | exact Or.inr (Or.inl rfl) | exact Or.inr (Or.inr rfl)) (hd : (x == ("__debug__" : Str)) = false := by decide) (hcd : (x == ("__classdict__" : Str)) = false := by decide)
    (hbase : attributeBase (.Name x p1) "append" X.env (eval (.Name x p1) X.env) = eval (.Name x p1) X.env := by rfl)
    (hfew : ((backTo p3 (starEach (e :: []) X.env)).all (fun x => !x.1) && (backToKw p3 (keywordEach [] X.env)).all (fun x => x.1.isSome)
      && decide ((e :: []).length + ([] : List Keyword).length + (if ([] : List Keyword).isEmpty then 0 else 1) < 30)) = true := by rfl)
    (hline : (p2.endLine == p3.line) = true := by rfl) (hs : starEach (e :: []) X.env = (false, eval e X.env) :: starEach [] X.env := by rfl) (hplain : (backTo p3 (starEach [] X.env)).any (·.1) = false := by rfl)
    (hsw : swapsWith (.Call (.Attribute (.Name x p1) "append" p2) [e] [] p3) none pos.line X.env = pure false := by rfl) :
    ∃ t, PS X (.Expr (.Call (.Attribute (.Name x p1) "append" p2) [e] [] p3) pos) t ∧ SndR X.K ca i t (sAppO i fa) := by
  obtain ⟨t, pe, se⟩ := he
  refine ⟨_, ps_expr (pe_bm PySem.F.plainAttrs_list PySem.F.slot_list_append PySem.F.type_list_append mt_append (pe_var hN hv hd hcd) (pa_cons pe pa_nil hs) hbase hfew hline hs hplain) hsw, fun B F env σ H D p0 q0 st h0 p => ?_⟩
  show ∃ v, σ[i]? = some (some v) ∧ (tyV X.K "list" v H ∧ t σ H fun y H1 => rAppend v [y] H1 fun _ H2 => D.nx σ H2)
  unfold sAppO at p
  split at p
  · rename_i xs ys e1 e2
    obtain ⟨a, vs, s1, n0, f0, hp, q⟩ := st.ownAt e1
    obtain ⟨s0, ne0, vs0, us, hp0, nin, hq0⟩ := h0
    rw [s1] at s0
    injection s0 with s0
    injection s0 with s0
    injection s0 with s0
    subst s0
    refine ⟨.ref a, s1, .inl ⟨rfl, vs, SqL.of hp⟩, ?_⟩
    refine se B F env σ H _ st ?_
    rw [e2]
    intro F1 H1 v g q1
    split at p
    · rename_i hz
      have q1' := q1
      obtain ⟨c, ws, rfl, nc, fc, hc, _⟩ := q1'
      obtain ⟨F2, g2, s2, q2⟩ := frz g (Fz.of q1 (show RV.toD (.ol ys) = some (.list ys) from rfl))
      have hp2 := g2.hh _ _ hp
      have f2 := g2.stillFree f0 hp
      have q3 : DqA X.K F2 (vs ++ [.ref c]) (xs ++ [.list ys]) := (DqA.mono g2.ff _ _ q).append (.cons q2 .nil)
      refine ⟨a, vs, .ref c, rfl, rfl, hp2, by rw [q.length]; exact million hz, ?_⟩
      have st2 := (st.grow g2).write (r1 := .ol (xs ++ [.list ys])) e1 rfl s1 hp2 n0 f2 (fun _ z => by cases z) ⟨a, _, rfl, n0, f2, upd_same, q3⟩ rfl
      rw [hp] at hp0
      injection hp0 with hp0
      injection hp0 with hp0
      subst hp0
      have hqa : q0 ≠ a := fun z => ne0 z.symm
      have hcq : V.ref c ≠ V.ref q0 := fun z => by
        injection z with z
        subst z
        rw [nc] at hq0
        cases hq0
      refine p F2 σ _ g2.ff st2 ⟨s1, ne0, vs0 ++ [.ref c], us, by rw [upd_same]; rfl, fun z => ?_, by rw [upd_ne hqa]; exact g2.hh _ _ hq0⟩
      rcases List.mem_append.mp z with z | z
      · exact nin z
      · exact hcq (List.mem_singleton.mp z).symm
    · exact p.elim
  · exact p.elim
theorem vr_for {i j0 : Nat} {tg iter : Expr} {body : List Stmt} {src : VEnv → Rs (List PyData)} {tb : TS} (hp : PassesOwn (model X.prog X.w) X.A X.env X.xe) (hc : X.calm = true) (hi : VI ca W X tg iter src) (hg : VG X tg (.nm j0)) (pb : PSs X body tb) (sb : SndR X.K ca i tb f) (hni : i ≠ j0)
    (hs : ∀ x, foldedSetIterable iter X.env x = pure x := by intro _; rfl) : ∃ t, PS X (.For tg iter body [] pos) t ∧ SndR X.K ca i t (sFor (.nm j0) src f) := by
  obtain ⟨t, pi, si⟩ := hi
  refine ⟨_, ps_for hp hc pi hg.ex pb hs, fun B F env σ H D p q st h0 po => ?_⟩
  refine si B F env σ H _ st ?_
  unfold sFor at po
  cases e : src env with
  | no => rw [e] at po; exact po
  | ex c fs => rw [e] at po; exact po.elim
  | ok xs =>
    rw [e] at po
    intro J F1 H1 vs g1 d1 jw
    refine ⟨fun j m σ H => m = vs.length - j ∧ j ≤ vs.length ∧ ∃ F' env', Same F1 F' ∧ StOk X.K ca B F' env' σ H ∧ Hd0 i p q σ H ∧ PostR X.K ca B F' D i p q (loopF (.nm j0) f (xs.drop j) env'), ⟨_, rfl, Nat.zero_le _, F1, env, Same.refl _, st.grow g1, h0.grow g1, PostR.mono g1.ff po⟩, ?_⟩
    rintro j m σ2 H2 ⟨rfl, hj, F2, env2, s2, st2, h2, p2⟩
    have s3 : Same F1 H2 := s2.trans st2.cfg.sub
    by_cases hlt : j < vs.length
    · obtain ⟨x, hx, qx⟩ := DqA.get' d1 (List.getElem?_eq_getElem hlt)
      rw [drop_cons hx] at p2
      unfold loopF at p2
      refine .inr ⟨jw.go j H2 s3.n hlt, fun σ' H' => ∃ F' env', Same F1 F' ∧ StOk X.K ca B F' env' σ' H' ∧ Hd0 i p q σ' H' ∧ PostR X.K ca B F' D i p q (loopF (.nm j0) f (xs.drop (j + 1)) env'), fun σ' H' z => ⟨vs.length - (j + 1), by omega, rfl, hlt, z⟩, fun y H' hy => ?_⟩
      obtain ⟨rfl, e2⟩ := jw.yld j H2 y H' s3.n hy hlt
      rw [List.getElem?_eq_getElem hlt] at e2
      cases e2
      cases e3 : tgE (.nm j0) x env2 with
      | none => rw [e3] at p2; exact p2.elim
      | some env3 =>
        rw [e3] at p2
        simp only at p2
        refine snd_tg st2 (qx.mono s2) e3 fun ws st3 => ?_
        have h3 : Hd0 i p q (tgSt (.nm j0) vs[j] ws σ2) H' := ⟨by show (σ2.set j0 _)[i]? = _; rw [List.getElem?_set_ne (Ne.symm hni)]; exact h2.1, h2.2⟩
        refine sb B F2 env3 _ _ _ p q st3 h3 ?_
        cases e4 : f env3 with
        | nx env' => rw [e4] at p2; exact fun F' σ' H' s st' z => ⟨F', env', s2.trans s, st', z, PostR.mono s p2⟩
        | ct env' => rw [e4] at p2; exact fun F' σ' H' s st' z => ⟨F', env', s2.trans s, st', z, PostR.mono s p2⟩
        | bk env' => rw [e4] at p2; exact p2
        | rt r => rw [e4] at p2; exact p2
        | rm o d => rw [e4] at p2; exact p2
        | rp x fs d => rw [e4] at p2; exact p2
        | ex c fs env' => rw [e4] at p2; exact p2
        | no => rw [e4] at p2; exact p2
    · have e5 : j = vs.length := by omega
      subst e5
      have : xs.drop vs.length = [] := by rw [d1.length]; exact List.drop_eq_nil_iff.mpr (Nat.le_refl _)
      rw [this] at p2
      exact .inl ⟨jw.stop H2 s3.n, p2 F2 σ2 H2 (Same.refl _) st2 h2⟩
def sSetR (i : Nat) (fe : VEnv → Rs RV) : VEnv → Out := fun env => match fe env with
  | .ok (.ol zs) => if i < env.length then .nx (env.set i (some (.ol [.list zs]))) else .no
  | _ => .no
theorem vr_set {i : Nat} {x : Str} {pos' lpos : Pos} (hN : X.N.Nodup) (hi : X.N[i]? = some x) (hx : Loc X.env.scope x) (he : VE ca W X e fa) (he2 : starEach [e] X.env = (false, eval e X.env) :: starEach [] X.env := by rfl) (hs : swapsWith (.List [e] lpos) (some (.Name x pos')) pos.line X.env = pure false := by rfl) (hf : X.fn x = true ∨ X.env.scope.names.lookup x = some .local := by first | exact .inl rfl | exact .inr rfl | assumption) :
    ∃ t, PS X (.Assign [.Name x pos'] (.List [e] lpos) pos) t ∧ ∀ B F env σ H D, StOk X.K ca B F env σ H → (match sSetR i fa env with | .nx env1 => ∀ F' σ' H' p q, Same F F' → B.H q = none → StOk X.K ca B F' env1 σ' H' → Hd0 i p q σ' H' → D.nx σ' H' | _ => False) → t D σ H := by
  obtain ⟨te, pe, se⟩ := he
  refine ⟨_, ps_set hN hi hx (pe_lst (pa_cons pe pa_nil he2)) hs hf, fun B F env σ H D st po => ?_⟩
  show te σ H fun x H1 => [x].length ≤ sizeLine ∧ ∀ p, H1 p = none → D.nx (σ.set i (some (.ref p))) (upd H1 p (.lst [x]))
  refine se B F env σ H _ st ?_
  unfold sSetR at po
  cases e1 : fa env with
  | no => rw [e1] at po; exact po.elim
  | ex c fs => rw [e1] at po; exact po.elim
  | ok r =>
    rw [e1] at po
    cases r with
    | ol zs =>
      simp only at po
      intro F1 H1 v g q1
      by_cases hlen : i < env.length
      · rw [if_pos hlen] at po
        have q1' := q1
        obtain ⟨c, ws, rfl, nc, fc, hc, _⟩ := q1'
        refine ⟨by rw [sizeLine_eq]; simp, fun p hp => ?_⟩
        obtain ⟨F2, g2, s2, q2⟩ := frz g (Fz.of q1 (show RV.toD (.ol zs) = some (.list zs) from rfl))
        have g3 := Grow.newO g2.cfg (.lst [.ref c]) hp (fun _ z => by cases z)
        have gg := g2.trans g3
        have hcp : c ≠ p := fun z => by subst z; rw [hp] at hc; cases hc
        have q3 : RVok X.K H F2 (upd H1 p (.lst [.ref c])) (.ref p) (.ol [.list zs]) := ⟨p, [.ref c], rfl, none_n g2.hh hp, same_none g2.cfg.sub hp, upd_same, .cons q2 .nil⟩
        have st3 := st.putE gg hlen q3 rfl rfl
        have hil : i < σ.length := by rw [← st.len]; exact hlen
        exact po F2 _ _ p c gg.ff (none_n st.gr.hh nc) st3 ⟨List.getElem?_set_self hil, Ne.symm hcp, [], ws, upd_same, by simp, by rw [upd_ne hcp]; exact hc⟩
      · rw [if_neg hlen] at po
        exact po.elim
    | _ => exact po.elim
def PostFR (K : PySem.W.Frag) (G H : Hp) (Q : VK) : Rs RV → Prop
  | .ok (.ol ds) => ∀ G' H' p q vs, Grow G H G' H' → H p = none → G' p = none → H' p = some (.lst (.ref q :: vs)) → V.ref q ∉ vs → H q = none → DqA K G' (.ref q :: vs) ds → Q (.ref p) H'
  | _ => False
def spR (K : PySem.W.Frag) (ca : CA) (n : Nat) (F : List RV → Rs RV) : Sp := fun vs H Q E => vs.length = n ∧ ∃ G rs, Cfg G H ∧ TabOk ca.T G H ∧ Paired (fun v r => RVok K H G H v r) vs rs ∧ PostFR K G H Q (F rs)
def PostRt (K : PySem.W.Frag) (B : Base) (D : Ends) : Out → Prop
  | .rt (.ol ds) => ∀ F' H' p q vs, Grow B.F B.H F' H' → B.H p = none → F' p = none → H' p = some (.lst (.ref q :: vs)) → V.ref q ∉ vs → B.H q = none → DqA K F' (.ref q :: vs) ds → D.rt (.ref p) H'
  | _ => False
def sSeqN (f g : VEnv → Out) : VEnv → Out := fun env => match f env with
  | .nx e => g e
  | _ => .no
theorem vss_R {i : Nat} {s1 s2 s3 : Stmt} {f1 f2 : VEnv → Out} {t1 t2 : TS} {x : Str} {p' rpos : Pos} (h3 : s3 = .Return (some (.Name x p')) rpos) (hN : X.N[i]? = some x) (hv : Vis X.env.scope x) (hd : (x == ("__debug__" : Str)) = false) (hcd : (x == ("__classdict__" : Str)) = false)
    (p1 : PS X s1 t1) (n1 : ∀ B F env σ H D, StOk X.K ca B F env σ H → (match f1 env with | .nx env1 => ∀ F' σ' H' p q, Same F F' → B.H q = none → StOk X.K ca B F' env1 σ' H' → Hd0 i p q σ' H' → D.nx σ' H' | _ => False) → t1 D σ H)
    (p2 : PS X s2 t2) (n2 : SndR X.K ca i t2 f2) : ∃ t, PSs X [s1, s2, s3] t ∧ ∀ B F env σ H D, StOk X.K ca B F env σ H → PostRt X.K B D (sSeqN f1 (sSeqN f2 (sRetV i)) env) → t D σ H := by
  subst h3
  refine ⟨_, pss_cons p1 (pss_cons p2 (pss_one (ps_ret (pe_var hN hv hd hcd)))), fun B F env σ H D st po => ?_⟩
  refine n1 B F env σ H _ st ?_
  unfold sSeqN at po
  cases e1 : f1 env with
  | nx env1 =>
    rw [e1] at po
    simp only at po
    intro F1 σ1 H1 p q s1 nq st1 h1
    refine n2 B F1 env1 σ1 H1 _ p q st1 h1 ?_
    cases e2 : f2 env1 with
    | nx env2 =>
      rw [e2] at po
      simp only at po
      intro F2 σ2 H2 s2 st2 h2
      show ∃ v, σ2[i]? = some (some v) ∧ D.rt v H2
      unfold sRetV at po
      cases e3 : env2[i]? with
      | none => rw [e3] at po; exact po.elim
      | some o =>
        rw [e3] at po
        cases o with
        | none => exact po.elim
        | some r =>
          cases r with
          | ol ds =>
            obtain ⟨z1, ne, vs, us, z2, z3, z4⟩ := h2
            obtain ⟨a, ws, y1, y2, y3, y4, y5⟩ := st2.ownAt e3
            rw [z1] at y1
            injection y1 with y1
            injection y1 with y1
            injection y1 with y1
            subst y1
            rw [z2] at y4
            injection y4 with y4
            injection y4 with y4
            subst y4
            exact ⟨.ref p, z1, po F2 H2 p q vs st2.gr y2 y3 z2 z3 nq y5⟩
          | ob me _ _ => cases me <;> exact po.elim
          | _ => exact po.elim
    | _ => rw [e2] at po; exact po.elim
  | _ => rw [e1] at po; exact po.elim
theorem fn_okR {P : Program} {w : World} {K : PySem.W.Frag} {mg : Str → Option Value} {base : Heap} {x qual : Str} {sd : Stmt} {fA : Addr} {fd : FuncData} {N ps : List Str} {k : Nat} {body : VEnv → Out} {ca : CA} (F : Fun K x qual sd fA fd) (S : FnScope N ps (defScope sd))
    (hb : ∀ (cdv : Value) (A : Around) (outer : List PySem.Env) (s : Shared) (H : Hp) (E : XK), Room k (A.deeper (envOfC qual (defScope sd) s.heap.objs.size fA cdv)) → Takes (cxOf (L2.CX P w) P w K mg base N qual (defScope sd) fA cdv A outer s H E) (fun cls dx _ H' => E cls dx H') →
      PassesOwn (model P w) (A.deeper (envOfC qual (defScope sd) s.heap.objs.size fA cdv)) (envOfC qual (defScope sd) s.heap.objs.size fA cdv) (cxOf (L2.CX P w) P w K mg base N qual (defScope sd) fA cdv A outer s H E).xe →
      ∃ t, PSs (cxOf (L2.CX P w) P w K mg base N qual (defScope sd) fA cdv A outer s H E) (defBody sd) t ∧ ∀ B F env σ H D, StOk K ca B F env σ H → PostRt K B D (body env) → t D σ H) : FnOk P w K mg base (L2.CX P w) (k + 1) fA fd ps (spR K ca ps.length (fnD N.length body)) := by
  refine F.okX S (fun vs H Q E h => h.1) (fun cdv A outer s H vs Q E hr h => ?_)
  obtain ⟨hl, G, rs, c, tb, pr, q⟩ := h
  obtain ⟨t, p, sn⟩ := hb cdv A outer s H E hr (takes_of rfl rfl rfl rfl) (passes_of rfl)
  refine ⟨t, p, sn { F := G, H := H } G _ _ H _ (start_ok N c tb pr) ?_⟩
  unfold fnD at q
  generalize hB : body (rs.map some ++ List.replicate (N.length - rs.length) none) = o at q ⊢
  cases o with
  | rt r =>
    cases r with
    | ol ds => exact fun F' H' p q' vs g n1 n2 hp nin nq dq => q F' H' p q' vs g n1 n2 hp nin nq dq
    | _ => exact q.elim
  | nx env => exact q.elim
  | ex c fs env => exact q.elim
  | _ => exact q.elim
theorem ints_eq : ∀ {xs : List PyData} {ns : List Int}, intsD xs = some ns → xs = ns.map .int
  | [], _, h => by cases h; rfl
  | .int i :: xs, ns, h => by
    have h : (intsD xs).map (i :: ·) = some ns := h
    obtain ⟨m, hm, rfl⟩ := Option.map_eq_some_iff.mp h
    rw [ints_eq hm]
    rfl
  | .none :: _, _, h => by cases h
  | .bool _ :: _, _, h => by cases h
  | .str _ :: _, _, h => by cases h
  | .list _ :: _, _, h => by cases h
  | .tuple _ :: _, _, h => by cases h
  | .dict _ :: _, _, h => by cases h
def rowD : PyData → Bool
  | .list xs => (intsD xs).isSome
  | _ => false
theorem row_upd {K : PySem.W.Frag} {F : Hp} {q : Addr} {o : HO} {v : V} {d : PyData} (h : Dq K F v d) (hr : rowD d = true) (hv : v ≠ .ref q) : Dq K (upd F q o) v d := by
  cases d with
  | list xs =>
    cases h with
    | @lst a ws _ h1 h2 =>
      obtain ⟨ns, hns⟩ := Option.isSome_iff_exists.mp (show (intsD xs).isSome = true from hr)
      have e := ints_ok h2 hns
      have ex := ints_eq hns
      subst ex
      subst e
      exact .lst (by rw [upd_ne (fun z => hv (by rw [z]))]; exact h1) (DqA.of_ints ns)
  | _ => cases hr
theorem rows_upd {K : PySem.W.Frag} {F : Hp} {q : Addr} {o : HO} : ∀ {vs : List V} {ds : List PyData}, DqA K F vs ds → ds.all rowD = true → V.ref q ∉ vs → DqA K (upd F q o) vs ds
  | _, [], h, _, _ => by cases h; exact .nil
  | _, d :: ds, h, hr, hv => by
    cases h with
    | cons h1 h2 =>
      rw [List.all_cons, Bool.and_eq_true] at hr
      exact .cons (row_upd h1 hr.1 (fun z => hv (by rw [z]; exact List.mem_cons_self))) (rows_upd h2 hr.2 (fun z => hv (List.mem_cons_of_mem _ z)))
def sTold (i : Nat) (fc : VEnv → Rs RV) (tst : VEnv → Rs Bool) (fe : VEnv → Rs RV) : VEnv → Out := fun env => match fc env with
  | .ok (.ol (.list (.int x :: xs) :: ds)) =>
    if ((intsD xs).isSome && ds.all rowD) = true ∧ i < env.length then
      (match tst (env.set i (some (.ol (.list (.int x :: xs) :: ds)))), fe (env.set i (some (.ol (.list (.int x :: xs) :: ds)))) with
      | .ok false, .ok (.d (.int y)) => .nx (env.set i (some (.ol (.list (.int y :: xs) :: ds))))
      | _, _ => .no)
    else .no
  | _ => .no
theorem vss_told {fA : Addr} {fd : FuncData} {ps : List Str} {x y : Str} {p p1 p2 p3 p4 p3' p4' pos1 pos2 pos3 : Pos} {k n i k1 k2 : Nat} {G : List RV → Rs RV} {f : VEnv → Rs (List RV)} {c ev : Expr} {body rest : List Stmt} {tst : VEnv → Rs Bool} {fe : VEnv → Rs RV} {f0 g : VEnv → Out} (Fo : FnOk X.prog X.w X.K X.mg X.base (L2.CX X.prog X.w) k fA fd ps (spR X.K ca n G)) (hr : Room k X.A) (hg : Gl X y) (hm : X.mg y = some (.ref fA)) (hk : PySem.W.keepIn X.K (.ref fA) = true) (hb : Binds X.K fd ps []) (tk : Takes X W)
    (ha : VA ca W X (e :: es) f) (hc : VT ca W X c tst) (h0 : VSs ca W X body f0) (hv : VE ca W X ev fe) (hrest : VSs ca W X rest g)
    (hNn : X.N.Nodup) (hN : X.N[i]? = some x) (hx : Loc X.env.scope x) (hvis : Vis X.env.scope x := by first | exact Or.inl rfl | exact Or.inr (Or.inl rfl) | exact Or.inr (Or.inr rfl))
    (hn : (e :: es).length = n := by rfl) (hdb : (y == ("__debug__" : Str)) = false := by decide) (he : starEach (e :: es) X.env = (false, eval e X.env) :: starEach es X.env := by rfl) (hpl : (backTo pos (starEach es X.env)).any (·.1) = false := by rfl)
    (hs1 : swapsWith (.Call (.Name y p) (e :: es) [] pos) (some (.Name x p1)) pos1.line X.env = pure false := by rfl) (hf : X.fn x = true ∨ X.env.scope.names.lookup x = some .local := by first | exact .inl rfl | exact .inr rfl | assumption)
    (hd : (x == ("__debug__" : Str)) = false := by decide) (hcd : (x == ("__classdict__" : Str)) = false := by decide)
    (hz : ∀ v, assign (.Subscript (.Subscript (.Name x p2) (.Constant (.int 0) k1 p3) p3') (.Constant (.int 0) k2 p4) p4') X.env v = (do
      let ov ← holding [v] (eval (.Subscript (.Name x p2) (.Constant (.int 0) k1 p3) p3') X.env)
      let iv ← holding [v, ov] (eval (.Constant (.int 0) k2 p4) X.env)
      standAt p4'
      holding [v, ov, iv] (setItem ov iv v)
      release [v, ov, iv] []) := by intro _; rfl)
    (hs3 : swapsWithSole [.Subscript (.Subscript (.Name x p2) (.Constant (.int 0) k1 p3) p3') (.Constant (.int 0) k2 p4) p4'] ev pos3.line X.env = pure false := by rfl) (hw3 : swappedStores [.Subscript (.Subscript (.Name x p2) (.Constant (.int 0) k1 p3) p3') (.Constant (.int 0) k2 p4) p4'] ev X.env = pure none := by rfl)
    (h31 : (assignEach [.Subscript (.Subscript (.Name x p2) (.Constant (.int 0) k1 p3) p3') (.Constant (.int 0) k2 p4) p4'] X.env).map (·.2) = [assign (.Subscript (.Subscript (.Name x p2) (.Constant (.int 0) k1 p3) p3') (.Constant (.int 0) k2 p4) p4') X.env] := by rfl) :
    VSs ca W X (.Assign [.Name x p1] (.Call (.Name y p) (e :: es) [] pos) pos1 :: .If c body [] pos2 :: .Assign [.Subscript (.Subscript (.Name x p2) (.Constant (.int 0) k1 p3) p3') (.Constant (.int 0) k2 p4) p4'] ev pos3 :: rest)
      (sSeq (sTold i (cA (fun rs => if rs.length = n then G (rs.map RV.arg) else .no) f) tst fe) g) := by
  obtain ⟨t, pa, sa⟩ := ha
  obtain ⟨tc, pc, sc⟩ := hc
  obtain ⟨tb, pb, sb⟩ := h0
  obtain ⟨tv, pv, sv⟩ := hv
  obtain ⟨tr, pr, sr⟩ := hrest
  refine ⟨_, pss_cons (ps_set hNn hN hx (pe_callSD Fo hr hg hm hk hb .nil (fun σ => passAt tk σ) pa hdb he hpl) hs1 hf) (pss_cons (ps_if pc pb pss_nil) (pss_cons (ps_asg pv (pg_sub (pe_ix ix_seq (pe_var hN hvis hd hcd) pe_int (fun _ _ => rfl)) pe_int set_list hz) hs3 hw3 h31) pr)), fun B F env σ H D st po => ?_⟩
  show t σ H fun vs H1 => spR X.K ca n G (vs ++ []) H1 (fun v H1 => tc (σ.set i (some v)) H1 fun b H2 => if b = true then tb _ (σ.set i (some v)) H2 else tv (σ.set i (some v)) H2 fun w H3 => ∃ u, (σ.set i (some v))[i]? = some (some u) ∧ rIx X.K u (.int 0) H3 fun o H4 => rSetL o (.int 0) w H4 fun H5 => tr D (σ.set i (some v)) H5) (WE W σ)
  unfold sSeq sTold cA at po
  cases hfe : f env with
  | no => rw [hfe] at po; exact po.elim
  | ex c fs => rw [hfe] at po; exact po.elim
  | ok rs =>
    rw [hfe] at po
    simp only [Rs.bind_ok] at po
    split at po
    · rename_i x0 xs ds hG
      by_cases hlen : rs.length = n
      · rw [if_pos hlen] at hG
        split at po
        · rename_i hcond
          obtain ⟨hcond, hi⟩ := hcond
          rw [Bool.and_eq_true] at hcond
          obtain ⟨hxs, hds⟩ := hcond
          split at po
          · rename_i yv htst hfe2
            simp only [Out.then_nx] at po
            refine sa B F env σ H _ st ?_
            rw [hfe]
            intro F1 H1 vs g1 q1
            rw [List.append_nil]
            obtain ⟨F2, g2, s2, q2⟩ := args_go g1 (Same.refl _) q1
            refine ⟨by rw [Paired.length q1, hlen], F2, _, g2.cfg, st.rg.tb.grow g2, q2, ?_⟩
            rw [hG]
            intro G' H' p0 q vs' gg n1 n2 hp nin nq dq
            have gA : Grow F H G' H' := g2.trans gg
            have rv : RVok X.K H G' H' (.ref p0) (.ol (.list (.int x0 :: xs) :: ds)) := ⟨p0, .ref q :: vs', rfl, none_n g2.hh n1, n2, hp, dq⟩
            have st1 := st.putE gA hi rv rfl rfl
            have hil : i < σ.length := by rw [← st.len]; exact hi
            refine sc B G' _ _ H' _ st1 ?_
            rw [htst]
            intro F3 H3 g3
            rw [if_neg Bool.false_ne_true]
            refine sv B F3 _ _ H3 _ (st1.grow g3) ?_
            rw [hfe2]
            intro F4 H4 v4 g4 d4
            cases d4
            have hp4 := g4.hh _ _ (g3.hh _ _ hp)
            cases dq with
            | cons dq1 dq2 =>
              cases dq1 with
              | @lst _ us _ hq dqx =>
                cases dqx with
                | @cons u us' _ _ du dus =>
                  cases du
                  obtain ⟨ns, hns⟩ := Option.isSome_iff_exists.mp hxs
                  have eus := ints_ok dus hns
                  have exs := ints_eq hns
                  subst exs
                  subst eus
                  have fq4 : F4 q = some (.lst (.int x0 :: ns.map V.int)) := g4.ff _ _ (g3.ff _ _ hq)
                  have hq4 : H4 q = some (.lst (.int x0 :: ns.map V.int)) := g4.cfg.sub _ _ fq4
                  have hpq : p0 ≠ q := fun z => by rw [z, hq] at n2; cases n2
                  have gB : Grow F H F4 H4 := gA.trans (g3.trans g4)
                  have nq0 : H q = none := none_n g2.hh nq
                  refine ⟨.ref p0, List.getElem?_set_self hil, .inl ⟨p0, .ref q :: vs', 0, .ref q, rfl, rfl, SqL.of hp4, atI_zero _ _, q, .int x0 :: ns.map V.int, 0, 0, rfl, rfl, hq4, by unfold ixN; rw [if_pos (Int.le_refl 0), if_pos (by rw [List.length_cons]; omega)]; rfl, ?_⟩⟩
                  show tr D (σ.set i (some (.ref p0))) (upd H4 q (.lst (.int yv :: ns.map V.int)))
                  have gF : Grow F H (upd F4 q (.lst (.int yv :: ns.map V.int))) (upd H4 q (.lst (.int yv :: ns.map V.int))) := by
                    refine ⟨⟨fun b o h => ?_, fun b xs h => ?_, fun b ps h => ?_⟩, fun b o h => ?_, ⟨fun b o h nt => ?_, fun b ps h => ?_⟩, fun b o h => ?_⟩
                    · by_cases z : b = q
                      · subst z; rw [upd_same] at h ⊢; exact h
                      · rw [upd_ne z] at h ⊢; exact gB.cfg.sub b o h
                    · by_cases z : b = q
                      · subst z; rw [upd_same] at h; cases h
                      · rw [upd_ne z] at h ⊢; exact gB.cfg.tup b xs h
                    · by_cases z : b = q
                      · subst z; rw [upd_same] at h; cases h
                      · rw [upd_ne z] at h; exact gB.cfg.nt b ps h
                    · have z : b ≠ q := fun z => by subst z; have := st.gr.cfg.sub _ _ h; rw [nq0] at this; cases this
                      rw [upd_ne z]; exact gB.ff b o h
                    · have z : b ≠ q := fun z => by subst z; rw [nq0] at h; cases h
                      rw [upd_ne z]; exact gB.hh.st b o h nt
                    · have z : b ≠ q := fun z => by subst z; rw [nq0] at h; cases h
                      rw [upd_ne z]; exact gB.hh.tb b ps h
                    · by_cases z : b = q
                      · subst z; exact .inr nq0
                      · rw [upd_ne z] at h; exact gB.nw b o h
                  have dq2' : DqA X.K F4 vs' ds := DqA.mono (g3.ff.trans g4.ff) _ _ dq2
                  have rv5 : RVok X.K H (upd F4 q (.lst (.int yv :: ns.map V.int))) (upd H4 q (.lst (.int yv :: ns.map V.int))) (.ref p0) (.ol (.list (.int yv :: ns.map .int) :: ds)) := by
                    refine ⟨p0, .ref q :: vs', rfl, none_n g2.hh n1, ?_, by rw [upd_ne hpq]; exact hp4, .cons (.lst upd_same (.cons (.int _) (DqA.of_ints ns))) (rows_upd dq2' hds nin)⟩
                    rw [upd_ne hpq]
                    exact (g3.trans g4).stillFree n2 hp
                  exact sr B _ _ _ _ D (st.putE gF hi rv5 rfl rfl) (PostS.mono gF.ff po)
          · exact po.elim
        · exact po.elim
      · rw [if_neg hlen] at hG
        cases hG
    · exact po.elim
theorem vss_fz {rest : List Stmt} {g : VEnv → Out} (i : Nat) (h : VSs ca W X rest g) : VSs ca W X rest (sFz i g) := by
  obtain ⟨t, p1, s1⟩ := h
  refine ⟨t, p1, fun B F env σ H D st p => ?_⟩
  obtain ⟨F', s, st'⟩ := st.fz i
  exact s1 B F' (fzE i env) σ H D st' (PostS.mono s p)
theorem vr_one {i : Nat} {st : Stmt} (h : ∃ t, PS X st t ∧ SndR X.K ca i t f) : ∃ t, PSs X [st] t ∧ SndR X.K ca i t f := by
  obtain ⟨t, p, n⟩ := h
  exact ⟨_, pss_one p, n⟩
theorem vr_forE {i j0 : Nat} {tg iter : Expr} {body : List Stmt} {src : VEnv → Rs (List PyData)} (hp : PassesOwn (model X.prog X.w) X.A X.env X.xe) (hc : X.calm = true) (hi : VI ca W X tg iter src) (hg : VG X tg (.nm j0)) (hb : ∃ tb, PSs X body tb ∧ SndR X.K ca i tb f) (hni : i ≠ j0)
    (hs : ∀ x, foldedSetIterable iter X.env x = pure x := by intro _; rfl) : ∃ t, PS X (.For tg iter body [] pos) t ∧ SndR X.K ca i t (sFor (.nm j0) src f) := by
  obtain ⟨tb, pb, sb⟩ := hb
  exact vr_for hp hc hi hg pb sb hni hs
theorem vss_RE {i : Nat} {s1 s2 : Stmt} {f1 f2 : VEnv → Out} {x : Str} {p' rpos : Pos}
    (h1 : ∃ t1, PS X s1 t1 ∧ ∀ B F env σ H D, StOk X.K ca B F env σ H → (match f1 env with | .nx env1 => ∀ F' σ' H' p q, Same F F' → B.H q = none → StOk X.K ca B F' env1 σ' H' → Hd0 i p q σ' H' → D.nx σ' H' | _ => False) → t1 D σ H)
    (h2 : ∃ t2, PS X s2 t2 ∧ SndR X.K ca i t2 f2) (hN : X.N[i]? = some x := by rfl) (hv : Vis X.env.scope x := by first | exact Or.inl rfl | exact Or.inr (Or.inl rfl) | exact Or.inr (Or.inr rfl)) (hd : (x == ("__debug__" : Str)) = false := by decide) (hcd : (x == ("__classdict__" : Str)) = false := by decide) :
    ∃ t, PSs X [s1, s2, .Return (some (.Name x p')) rpos] t ∧ ∀ B F env σ H D, StOk X.K ca B F env σ H → PostRt X.K B D (sSeqN f1 (sSeqN f2 (sRetV i)) env) → t D σ H := by
  obtain ⟨t1, p1, n1⟩ := h1
  obtain ⟨t2, p2, n2⟩ := h2
  exact vss_R rfl hN hv hd hcd p1 n1 p2 n2
end
end VL
namespace My
open PySem PySem.Spec PyProof.Rows L2 VL TL
theorem VT : ((((((((type_of% @e_nil ∧ type_of% @e_seq) ∧ (type_of% @e_fz ∧ type_of% @e_bk)) ∧ ((type_of% @e_ct ∧ type_of% @e_ret) ∧ (type_of% @e_retN ∧ type_of% @e_drop))) ∧ (((type_of% @e_set ∧ type_of% @e_if) ∧ (type_of% @e_for ∧ type_of% @e_cC)) ∧ ((type_of% @e_c2 ∧ type_of% @e_c1) ∧ (type_of% @e_cA ∧ (type_of% @e_aN ∧ type_of% @e_aC))))) ∧ ((((type_of% @e_cB ∧ type_of% @e_asB) ∧ (type_of% @e_bNot ∧ type_of% @e_bAnd)) ∧ ((type_of% @e_bOr ∧ type_of% @e_vAnd) ∧ (type_of% @e_vOr ∧ (type_of% @e_vNot ∧ type_of% @e_vIf)))) ∧ (((type_of% @e_bYes ∧ type_of% @e_iL) ∧ (type_of% @e_iT ∧ type_of% @e_iLb)) ∧ ((type_of% @e_iR ∧ type_of% @e_gL1) ∧ (type_of% @e_gL2 ∧ (type_of% @e_gL3 ∧ type_of% @e_gT)))))) ∧ (((((type_of% @e_gLb1 ∧ type_of% @e_gLb2) ∧ (type_of% @e_gLb3 ∧ type_of% @e_gLb4)) ∧ ((type_of% @e_nb1 ∧ type_of% @e_nb2) ∧ (type_of% @e_bor1 ∧ type_of% @e_bor2))) ∧ (((type_of% @e_bor3 ∧ type_of% @e_bor4) ∧ (type_of% @e_arg1 ∧ type_of% @e_arg2)) ∧ ((type_of% @e_arg3 ∧ type_of% @e_arg4) ∧ (type_of% @e_putd ∧ (type_of% @e_puto ∧ type_of% @e_toD1))))) ∧ ((((type_of% @e_toD2 ∧ type_of% @e_allD0) ∧ (type_of% @e_allD1 ∧ type_of% @e_allD2)) ∧ ((type_of% @e_gTupl ∧ type_of% @e_gList) ∧ (type_of% @e_tgnm ∧ (type_of% @e_tgtp ∧ type_of% @e_tg0)))) ∧ (((type_of% @e_tg1 ∧ type_of% @e_sq1) ∧ (type_of% @e_sq2 ∧ type_of% @e_sq3)) ∧ ((type_of% @e_sq4 ∧ type_of% @e_sq5) ∧ (type_of% @e_qv2 ∧ (type_of% @e_qv3 ∧ type_of% @e_qv4))))))) ∧ ((((((type_of% @e_qv5 ∧ type_of% @e_data1) ∧ (type_of% @e_data2 ∧ type_of% @e_data3)) ∧ ((type_of% @e_okI ∧ type_of% @e_okB) ∧ (type_of% @e_i2 ∧ type_of% @e_sub))) ∧ (((type_of% @e_mul ∧ type_of% @e_mod) ∧ (type_of% @e_div ∧ type_of% @e_pow)) ∧ ((type_of% @e_lt ∧ type_of% @e_le) ∧ (type_of% @e_gt ∧ (type_of% @e_ge ∧ type_of% @e_neg))))) ∧ ((((type_of% @e_addI ∧ type_of% @e_addS) ∧ (type_of% @e_addT ∧ type_of% @e_addL1)) ∧ ((type_of% @e_addL2 ∧ type_of% @e_addL3) ∧ (type_of% @e_addL4 ∧ (type_of% @e_addL5 ∧ type_of% @e_addL6)))) ∧ (((type_of% @e_addL7 ∧ type_of% @e_addL8) ∧ (type_of% @e_addL9 ∧ type_of% @e_eq)) ∧ ((type_of% @e_ne ∧ type_of% @e_in) ∧ (type_of% @e_notIn ∧ (type_of% @e_inT ∧ type_of% @e_inT2)))))) ∧ (((((type_of% @e_inL1 ∧ type_of% @e_inL2) ∧ (type_of% @e_inL3 ∧ type_of% @e_is)) ∧ ((type_of% @e_isNot ∧ type_of% @e_isN1) ∧ (type_of% @e_isN2 ∧ type_of% @e_isN3))) ∧ (((type_of% @e_isN4 ∧ type_of% @e_isN5) ∧ (type_of% @e_isN6 ∧ type_of% @e_isN7)) ∧ ((type_of% @e_ixT ∧ type_of% @e_ixL) ∧ (type_of% @e_ixO ∧ (type_of% @e_ixB ∧ type_of% @e_ixSc))))) ∧ ((((type_of% @e_lenT ∧ type_of% @e_lenL) ∧ (type_of% @e_lenO ∧ type_of% @e_lenB)) ∧ ((type_of% @e_lenSc ∧ type_of% @e_lenS) ∧ (type_of% @e_tupT ∧ (type_of% @e_tupL ∧ type_of% @e_tupO)))) ∧ (((type_of% @e_tupB ∧ type_of% @e_lisT) ∧ (type_of% @e_lisL ∧ type_of% @e_lisO)) ∧ ((type_of% @e_lisB ∧ type_of% @e_min2) ∧ (type_of% @e_max2 ∧ (type_of% @e_any ∧ type_of% @e_all)))))))) ∧ (((((((type_of% @e_sum ∧ type_of% @e_sorted) ∧ (type_of% @e_rev ∧ type_of% @e_sl)) ∧ ((type_of% @e_oN ∧ type_of% @e_isi) ∧ (type_of% @e_lc ∧ type_of% @e_wipe0))) ∧ (((type_of% @e_wipe1 ∧ type_of% @e_iA) ∧ (type_of% @e_iAb ∧ type_of% @e_gAq1)) ∧ ((type_of% @e_gAq2 ∧ type_of% @e_gAq3) ∧ (type_of% @e_gAqb1 ∧ (type_of% @e_gAqb2 ∧ type_of% @e_gAqb3))))) ∧ ((((type_of% @e_gAqb4 ∧ type_of% @e_no) ∧ (type_of% @e_cCh ∧ type_of% @e_cChI)) ∧ ((type_of% @e_aug ∧ type_of% @e_decT) ∧ (type_of% @e_decF ∧ (type_of% @e_cDispS ∧ type_of% @e_cDT)))) ∧ (((type_of% @e_cDK ∧ type_of% @e_cDisp1) ∧ (type_of% @e_storeA ∧ type_of% @e_stR1)) ∧ ((type_of% @e_stR2 ∧ type_of% @e_stR3) ∧ (type_of% @e_sd1 ∧ (type_of% @e_keyD1 ∧ type_of% @e_keyD2)))))) ∧ (((((type_of% @e_keyTD ∧ type_of% @e_intsD) ∧ (type_of% @e_intsD0 ∧ type_of% @e_borT)) ∧ ((type_of% @e_borT2 ∧ type_of% @e_borK) ∧ (type_of% @e_borK2 ∧ type_of% @e_argT))) ∧ (((type_of% @e_argT2 ∧ type_of% @e_argK) ∧ (type_of% @e_argK2 ∧ type_of% @e_nbT)) ∧ ((type_of% @e_nbK ∧ type_of% @e_putT) ∧ (type_of% @e_putK ∧ (type_of% @e_gAt1 ∧ type_of% @e_gAt2))))) ∧ ((((type_of% @e_gAt3 ∧ type_of% @e_gAt4) ∧ (type_of% @e_gGetDK ∧ type_of% @e_gGetDT)) ∧ ((type_of% @e_gIxD ∧ type_of% @e_gInD) ∧ (type_of% @e_gNotInD ∧ (type_of% @e_cGet1 ∧ type_of% @e_cGet2)))) ∧ (((type_of% @e_dk1 ∧ type_of% @e_dk2) ∧ (type_of% @e_dk3 ∧ type_of% @e_dk4)) ∧ ((type_of% @e_dt1 ∧ type_of% @e_dt2) ∧ (type_of% @e_del ∧ (type_of% @atI_zero ∧ type_of% @e_at1))))))) ∧ ((((((type_of% @e_at2 ∧ type_of% @e_at3) ∧ (type_of% @e_at4 ∧ type_of% @e_at5)) ∧ ((type_of% @e_at6 ∧ type_of% @e_at7) ∧ (type_of% @e_at8 ∧ type_of% @e_at9))) ∧ (((type_of% @e_atm ∧ type_of% @e_V) ∧ (type_of% @e_retV ∧ type_of% @e_unp)) ∧ ((type_of% @e_app ∧ type_of% @e_store) ∧ (type_of% @e_fzE ∧ (type_of% @rsO_some ∧ type_of% @Rs.bind_ok))))) ∧ ((((type_of% @Rs.bind_no ∧ type_of% @Rs.out_ok) ∧ (type_of% @Out.then_nx ∧ type_of% @Out.then_rt)) ∧ ((type_of% @Out.then_ct ∧ type_of% @Out.then_bk) ∧ (type_of% @fin_rt ∧ (type_of% @fin_nx ∧ type_of% @Bool.false_eq_true)))) ∧ (((type_of% @Bool.not_true ∧ type_of% @Bool.not_false) ∧ (type_of% @and_self ∧ type_of% @true_and)) ∧ ((type_of% @and_true ∧ type_of% @sh_int) ∧ (type_of% @sh_bool ∧ (type_of% @sh_none ∧ type_of% @sh_tup)))))) ∧ (((((type_of% @sh_lst ∧ type_of% @eqv_int) ∧ (type_of% @kitB_ll ∧ type_of% @kitB_lt)) ∧ ((type_of% @kitB_tt ∧ type_of% @kitB_tl) ∧ (type_of% @kitB_ii ∧ (type_of% @tyD_list ∧ type_of% @tyD_int)))) ∧ (((type_of% @Bool.true_and ∧ type_of% @Bool.false_and) ∧ (type_of% @Bool.and_true ∧ type_of% @Bool.and_false)) ∧ ((type_of% @Bool.or_true ∧ type_of% @Bool.true_or) ∧ (type_of% @Bool.false_or ∧ (type_of% @Bool.or_false ∧ type_of% @Bool.and_self))))) ∧ ((((type_of% @Bool.or_self ∧ type_of% @e_cAK) ∧ (type_of% @e_andB ∧ type_of% @e_orB)) ∧ ((type_of% @e_andR ∧ type_of% @e_orR) ∧ (type_of% @tyD_tuple ∧ (type_of% @eqv_bool ∧ type_of% @eqv_none)))) ∧ (((type_of% @tyD_bool ∧ type_of% @tyD_str) ∧ (type_of% @tyD_none ∧ type_of% @kitB_bb)) ∧ ((type_of% @kitB_nb ∧ type_of% @kitB_bi) ∧ (type_of% @kitB_ib ∧ (type_of% @kitB_nl ∧ type_of% @kitB_nt))))))))) := ⟨⟨⟨⟨⟨⟨⟨⟨@e_nil, @e_seq⟩, ⟨@e_fz, @e_bk⟩⟩, ⟨⟨@e_ct, @e_ret⟩, ⟨@e_retN, @e_drop⟩⟩⟩, ⟨⟨⟨@e_set, @e_if⟩, ⟨@e_for, @e_cC⟩⟩, ⟨⟨@e_c2, @e_c1⟩, ⟨@e_cA, ⟨@e_aN, @e_aC⟩⟩⟩⟩⟩, ⟨⟨⟨⟨@e_cB, @e_asB⟩, ⟨@e_bNot, @e_bAnd⟩⟩, ⟨⟨@e_bOr, @e_vAnd⟩, ⟨@e_vOr, ⟨@e_vNot, @e_vIf⟩⟩⟩⟩, ⟨⟨⟨@e_bYes, @e_iL⟩, ⟨@e_iT, @e_iLb⟩⟩, ⟨⟨@e_iR, @e_gL1⟩, ⟨@e_gL2, ⟨@e_gL3, @e_gT⟩⟩⟩⟩⟩⟩, ⟨⟨⟨⟨⟨@e_gLb1, @e_gLb2⟩, ⟨@e_gLb3, @e_gLb4⟩⟩, ⟨⟨@e_nb1, @e_nb2⟩, ⟨@e_bor1, @e_bor2⟩⟩⟩, ⟨⟨⟨@e_bor3, @e_bor4⟩, ⟨@e_arg1, @e_arg2⟩⟩, ⟨⟨@e_arg3, @e_arg4⟩, ⟨@e_putd, ⟨@e_puto, @e_toD1⟩⟩⟩⟩⟩, ⟨⟨⟨⟨@e_toD2, @e_allD0⟩, ⟨@e_allD1, @e_allD2⟩⟩, ⟨⟨@e_gTupl, @e_gList⟩, ⟨@e_tgnm, ⟨@e_tgtp, @e_tg0⟩⟩⟩⟩, ⟨⟨⟨@e_tg1, @e_sq1⟩, ⟨@e_sq2, @e_sq3⟩⟩, ⟨⟨@e_sq4, @e_sq5⟩, ⟨@e_qv2, ⟨@e_qv3, @e_qv4⟩⟩⟩⟩⟩⟩⟩, ⟨⟨⟨⟨⟨⟨@e_qv5, @e_data1⟩, ⟨@e_data2, @e_data3⟩⟩, ⟨⟨@e_okI, @e_okB⟩, ⟨@e_i2, @e_sub⟩⟩⟩, ⟨⟨⟨@e_mul, @e_mod⟩, ⟨@e_div, @e_pow⟩⟩, ⟨⟨@e_lt, @e_le⟩, ⟨@e_gt, ⟨@e_ge, @e_neg⟩⟩⟩⟩⟩, ⟨⟨⟨⟨@e_addI, @e_addS⟩, ⟨@e_addT, @e_addL1⟩⟩, ⟨⟨@e_addL2, @e_addL3⟩, ⟨@e_addL4, ⟨@e_addL5, @e_addL6⟩⟩⟩⟩, ⟨⟨⟨@e_addL7, @e_addL8⟩, ⟨@e_addL9, @e_eq⟩⟩, ⟨⟨@e_ne, @e_in⟩, ⟨@e_notIn, ⟨@e_inT, @e_inT2⟩⟩⟩⟩⟩⟩, ⟨⟨⟨⟨⟨@e_inL1, @e_inL2⟩, ⟨@e_inL3, @e_is⟩⟩, ⟨⟨@e_isNot, @e_isN1⟩, ⟨@e_isN2, @e_isN3⟩⟩⟩, ⟨⟨⟨@e_isN4, @e_isN5⟩, ⟨@e_isN6, @e_isN7⟩⟩, ⟨⟨@e_ixT, @e_ixL⟩, ⟨@e_ixO, ⟨@e_ixB, @e_ixSc⟩⟩⟩⟩⟩, ⟨⟨⟨⟨@e_lenT, @e_lenL⟩, ⟨@e_lenO, @e_lenB⟩⟩, ⟨⟨@e_lenSc, @e_lenS⟩, ⟨@e_tupT, ⟨@e_tupL, @e_tupO⟩⟩⟩⟩, ⟨⟨⟨@e_tupB, @e_lisT⟩, ⟨@e_lisL, @e_lisO⟩⟩, ⟨⟨@e_lisB, @e_min2⟩, ⟨@e_max2, ⟨@e_any, @e_all⟩⟩⟩⟩⟩⟩⟩⟩, ⟨⟨⟨⟨⟨⟨⟨@e_sum, @e_sorted⟩, ⟨@e_rev, @e_sl⟩⟩, ⟨⟨@e_oN, @e_isi⟩, ⟨@e_lc, @e_wipe0⟩⟩⟩, ⟨⟨⟨@e_wipe1, @e_iA⟩, ⟨@e_iAb, @e_gAq1⟩⟩, ⟨⟨@e_gAq2, @e_gAq3⟩, ⟨@e_gAqb1, ⟨@e_gAqb2, @e_gAqb3⟩⟩⟩⟩⟩, ⟨⟨⟨⟨@e_gAqb4, @e_no⟩, ⟨@e_cCh, @e_cChI⟩⟩, ⟨⟨@e_aug, @e_decT⟩, ⟨@e_decF, ⟨@e_cDispS, @e_cDT⟩⟩⟩⟩, ⟨⟨⟨@e_cDK, @e_cDisp1⟩, ⟨@e_storeA, @e_stR1⟩⟩, ⟨⟨@e_stR2, @e_stR3⟩, ⟨@e_sd1, ⟨@e_keyD1, @e_keyD2⟩⟩⟩⟩⟩⟩, ⟨⟨⟨⟨⟨@e_keyTD, @e_intsD⟩, ⟨@e_intsD0, @e_borT⟩⟩, ⟨⟨@e_borT2, @e_borK⟩, ⟨@e_borK2, @e_argT⟩⟩⟩, ⟨⟨⟨@e_argT2, @e_argK⟩, ⟨@e_argK2, @e_nbT⟩⟩, ⟨⟨@e_nbK, @e_putT⟩, ⟨@e_putK, ⟨@e_gAt1, @e_gAt2⟩⟩⟩⟩⟩, ⟨⟨⟨⟨@e_gAt3, @e_gAt4⟩, ⟨@e_gGetDK, @e_gGetDT⟩⟩, ⟨⟨@e_gIxD, @e_gInD⟩, ⟨@e_gNotInD, ⟨@e_cGet1, @e_cGet2⟩⟩⟩⟩, ⟨⟨⟨@e_dk1, @e_dk2⟩, ⟨@e_dk3, @e_dk4⟩⟩, ⟨⟨@e_dt1, @e_dt2⟩, ⟨@e_del, ⟨@atI_zero, @e_at1⟩⟩⟩⟩⟩⟩⟩, ⟨⟨⟨⟨⟨⟨@e_at2, @e_at3⟩, ⟨@e_at4, @e_at5⟩⟩, ⟨⟨@e_at6, @e_at7⟩, ⟨@e_at8, @e_at9⟩⟩⟩, ⟨⟨⟨@e_atm, @e_V⟩, ⟨@e_retV, @e_unp⟩⟩, ⟨⟨@e_app, @e_store⟩, ⟨@e_fzE, ⟨@rsO_some, @Rs.bind_ok⟩⟩⟩⟩⟩, ⟨⟨⟨⟨@Rs.bind_no, @Rs.out_ok⟩, ⟨@Out.then_nx, @Out.then_rt⟩⟩, ⟨⟨@Out.then_ct, @Out.then_bk⟩, ⟨@fin_rt, ⟨@fin_nx, @Bool.false_eq_true⟩⟩⟩⟩, ⟨⟨⟨@Bool.not_true, @Bool.not_false⟩, ⟨@and_self, @true_and⟩⟩, ⟨⟨@and_true, @sh_int⟩, ⟨@sh_bool, ⟨@sh_none, @sh_tup⟩⟩⟩⟩⟩⟩, ⟨⟨⟨⟨⟨@sh_lst, @eqv_int⟩, ⟨@kitB_ll, @kitB_lt⟩⟩, ⟨⟨@kitB_tt, @kitB_tl⟩, ⟨@kitB_ii, ⟨@tyD_list, @tyD_int⟩⟩⟩⟩, ⟨⟨⟨@Bool.true_and, @Bool.false_and⟩, ⟨@Bool.and_true, @Bool.and_false⟩⟩, ⟨⟨@Bool.or_true, @Bool.true_or⟩, ⟨@Bool.false_or, ⟨@Bool.or_false, @Bool.and_self⟩⟩⟩⟩⟩, ⟨⟨⟨⟨@Bool.or_self, @e_cAK⟩, ⟨@e_andB, @e_orB⟩⟩, ⟨⟨@e_andR, @e_orR⟩, ⟨@tyD_tuple, ⟨@eqv_bool, @eqv_none⟩⟩⟩⟩, ⟨⟨⟨@tyD_bool, @tyD_str⟩, ⟨@tyD_none, @kitB_bb⟩⟩, ⟨⟨@kitB_nb, @kitB_bi⟩, ⟨@kitB_ib, ⟨@kitB_nl, @kitB_nt⟩⟩⟩⟩⟩⟩⟩⟩⟩
def B__law_cell : VEnv → Out :=
  (sSeq (sIf (cB (c2 gLt (cV 1) (cA gLen (aC (cV 0) aN)))) (sRet (c2 gIx (cV 0) (cV 1))) sNil)
    (sRet (cC (.int 0))))
def F__law_cell : List RV → Rs RV := fnD 2 B__law_cell
def L0__law_draw : VEnv → Out :=
  (sSeq (sApp 4 (c2 gMod (cV 3) (cV 5)))
    (sSet 3 (c2 gDiv (cV 3) (cV 5))))
def L1__law_draw : VEnv → Out :=
  (sSeq (sSet 6 (c2 gMod (c2 gAdd (c2 gAdd (c2 gMul (cV 6) (cC (.int 48271))) (cC (.int 11))) (cV 7)) (cC (.int 2147483647))))
    (sSeq (sSet 6 (c2 gMod (c2 gAdd (c2 gMul (cV 6) (cC (.int 69621))) (cC (.int 3))) (cC (.int 2147483647))))
    (sApp 4 (c2 gMod (c2 gDiv (cV 6) (cC (.int 7))) (c2 gIx (cV 2) (cV 7))))))
def B__law_draw : VEnv → Out :=
  (sSeq (sSet 3 (cA (fun rs => if rs.length = 2 then F__law_cell (rs.map RV.arg) else .no) (aC (cV 0) (aC (cV 1) aN))))
    (sSeq (sIf (cB (c2 gLt (cV 3) (cC (.int 0)))) (sSet 3 (c1 gNeg (cV 3))) sNil)
    (sSeq (sSet 4 (cA gList aN))
    (sSeq (sIf (cB (c2 gGe (cV 3) (c2 gPow (cC (.int 10)) (cC (.int 18))))) (sSeq (sSet 3 (c2 gSub (cV 3) (c2 gPow (cC (.int 10)) (cC (.int 18)))))
    (sSeq (sFor (.nm 5) (iL (cV 2)) L0__law_draw)
    (sRetV 4))) sNil)
    (sSeq (sSet 6 (c2 gMod (c2 gAdd (c2 gAdd (cV 3) (cC (.int 1))) (c2 gMul (cC (.int 31)) (cV 1))) (cC (.int 2147483647))))
    (sSeq (sFor (.nm 7) (iR gR1 (aC (cA gLen (aC (cV 2) aN)) aN)) L1__law_draw)
    (sRetV 4)))))))
def F__law_draw : List RV → Rs RV := fnD 8 B__law_draw
def B__law_operand : VEnv → Out :=
  (sSeq (sIf (cB (c2 gEq (cV 0) (cC (.int 0)))) (sRet (c2 gAdd (cC (.str "x")) (cA gStr (aC (c2 gMod (cV 1) (cV 3)) aN)))) sNil)
    (sSeq (sIf (bOr (cB (c2 gEq (cV 0) (cC (.int 1)))) (cB (c2 gEq (cV 4) (cC (.int 0))))) (sRet (cA gStr (aC (c2 gMod (cV 1) (cV 2)) aN))) sNil)
    (sRet (c2 gAdd (cC (.str "s")) (cA gStr (aC (c2 gSub (c2 gSub (cV 4) (cC (.int 1))) (c2 gMod (cV 1) (cV 4))) aN))))))
def F__law_operand : List RV → Rs RV := fnD 5 B__law_operand
def L0__law_program : VEnv → Out :=
  (sSeq (sSet 8 (cSl (cV 3) (oS (c2 gAdd (cC (.int 3)) (c2 gMul (cC (.int 5)) (cV 7)))) (oS (c2 gAdd (cC (.int 8)) (c2 gMul (cC (.int 5)) (cV 7))))))
    (sSeq (sFz 5 (sFz 4 (sSet 9 (cA (fun rs => if rs.length = 5 then F__law_operand (rs.map RV.arg) else .no) (aC (c2 gIx (cV 8) (cC (.int 1))) (aC (c2 gIx (cV 8) (cC (.int 2))) (aC (cV 4) (aC (cV 5) (aC (cA gLen (aC (cV 6) aN)) aN)))))))))
    (sSeq (sFz 5 (sFz 4 (sSet 10 (cA (fun rs => if rs.length = 5 then F__law_operand (rs.map RV.arg) else .no) (aC (c2 gIx (cV 8) (cC (.int 3))) (aC (c2 gIx (cV 8) (cC (.int 4))) (aC (cV 4) (aC (cV 5) (aC (cA gLen (aC (cV 6) aN)) aN)))))))))
    (sFz 10 (sFz 9 (sIf (cB (c2 gNotIn (cA gTupl (aC (c2 gIx (cC (.str "+-*")) (c2 gIx (cV 8) (cC (.int 0)))) (aC (cV 9) (aC (cV 10) aN)))) (cV 6))) (sFz 10 (sFz 9 (sApp 6 (cA gTupl (aC (c2 gIx (cC (.str "+-*")) (c2 gIx (cV 8) (cC (.int 0)))) (aC (cV 9) (aC (cV 10) aN))))))) sNil))))))
def B__law_program : VEnv → Out :=
  (sSeq (sSet 3 (cA (fun rs => if rs.length = 3 then F__law_draw (rs.map RV.arg) else .no) (aC (cV 0) (aC (cV 1) (aC (c2 gAdd (c2 gAdd (cA gList (aC (cC (.int 12)) (aC (cC (.int 2)) (aC (cV 2) aN)))) (c2 gRep (cA gList (aC (cC (.int 3)) (aC (cC (.int 4)) (aC (cC (.int 13)) (aC (cC (.int 4)) (aC (cC (.int 13)) aN)))))) (cC (.int 7)))) (c2 gRep (cA gList (aC (cC (.int 3)) aN)) (cC (.int 8)))) aN)))))
    (sSeq (sSet 4 (c2 gAdd (cC (.int 2)) (c2 gIx (cV 3) (cC (.int 0)))))
    (sSeq (sSet 5 (c2 gAdd (cC (.int 1)) (c2 gIx (cV 3) (cC (.int 1)))))
    (sSeq (sSet 6 (cA gList aN))
    (sSeq (sFor (.nm 7) (iR gR1 (aC (c2 gAdd (cC (.int 1)) (c2 gIx (cV 3) (cC (.int 2)))) aN)) L0__law_program)
    (sSeq (sSet 11 (cLc (iR gR1 (aC (cA gLen (aC (cV 6) aN)) aN)) [7] (.nm 7) (cB (c2 gEq (c2 gIx (cV 3) (c2 gAdd (cC (.int 38)) (cV 7))) (cC (.int 0)))) (cV 7)))
    (sSeq (sIf (cB (c2 gNotIn (c2 gSub (cA gLen (aC (cV 6) aN)) (cC (.int 1))) (cV 11))) (sApp 11 (c2 gSub (cA gLen (aC (cV 6) aN)) (cC (.int 1)))) sNil)
    (sFz 5 (sFz 4 (sRet (cA gTupl (aC (cV 4) (aC (cV 5) (aC (cA gTupleC (aC (cV 6) aN)) (aC (cA gTupleC (aC (cV 11) aN)) aN)))))))))))))))
def F__law_program : List RV → Rs RV := fnD 12 B__law_program
def L0__law_random : VEnv → Out :=
  (sSeq (sSet 11 (c2 gAdd (cC (.str "r")) (cA gStr (aC (c2 gMod (c2 gAdd (c2 gAdd (c2 gIx (cV 7) (cC (.int 0))) (cC (.int 1))) (c2 gMod (cV 10) (cC (.int 7)))) (cC (.int 8))) aN))))
    (sSeq (sIf (cB (c2 gEq (cV 9) (cC (.int 0)))) (sSet 11 (c2 gAdd (cC (.str "x")) (cA gStr (aC (c2 gMod (cV 10) (c2 gIx (cV 2) (cC (.int 1)))) aN)))) sNil)
    (sSeq (sIf (cB (c2 gEq (cV 9) (cC (.int 1)))) (sSet 11 (cA gStr (aC (c2 gMod (cV 10) (c2 gIx (cV 2) (cC (.int 0)))) aN))) sNil)
    (sFz 11 (sApp 8 (cV 11))))))
def L1__law_random : VEnv → Out :=
  (sSeq (sSet 7 (cSl (cV 5) (oS (c2 gAdd (cC (.int 1)) (c2 gMul (cC (.int 7)) (cV 6)))) (oS (c2 gAdd (cC (.int 8)) (c2 gMul (cC (.int 7)) (cV 6))))))
    (sSeq (sSet 8 (cA gList aN))
    (sSeq (sFor (.tp [9, 10]) (iL (cA gList (aC (cA gTupl (aC (c2 gIx (cV 7) (cC (.int 3))) (aC (c2 gIx (cV 7) (cC (.int 4))) aN))) (aC (cA gTupl (aC (c2 gIx (cV 7) (cC (.int 5))) (aC (c2 gIx (cV 7) (cC (.int 6))) aN))) aN)))) L0__law_random)
    (sApp 4 (cA gTupl (aC (c2 gIx (cV 7) (cC (.int 0))) (aC (c2 gIx (cC (.str "+-")) (c2 gIx (cV 7) (cC (.int 1)))) (aC (c2 gIx (cC (.str "+-*")) (c2 gIx (cV 7) (cC (.int 2)))) (aC (c2 gIx (cV 8) (cC (.int 0))) (aC (c2 gIx (cV 8) (cC (.int 1))) aN))))))))))
def B__law_random : VEnv → Out :=
  (sSeq (sSet 4 (cA gList aN))
    (sSeq (sSet 5 (cA (fun rs => if rs.length = 3 then F__law_draw (rs.map RV.arg) else .no) (aC (cV 0) (aC (cV 1) (aC (c2 gAdd (cA gList (aC (cV 3) aN)) (c2 gRep (cA gList (aC (cC (.int 8)) (aC (cC (.int 2)) (aC (cC (.int 3)) (aC (cC (.int 3)) (aC (cC (.int 13)) (aC (cC (.int 3)) (aC (cC (.int 13)) aN)))))))) (cV 3))) aN)))))
    (sSeq (sFor (.nm 6) (iR gR1 (aC (c2 gIx (cV 5) (cC (.int 0))) aN)) L1__law_random)
    (sRetV 4))))
def F__law_random : List RV → Rs RV := fnD 12 B__law_random
def B__law_inputs : VEnv → Out :=
  (sSeq (sSet 3 (cA (fun rs => if rs.length = 3 then F__law_draw (rs.map RV.arg) else .no) (aC (cV 0) (aC (cV 1) (aC (c2 gRep (cA gList (aC (c2 gIx (cV 2) (cC (.int 0))) aN)) (c2 gIx (cV 2) (cC (.int 1)))) aN)))))
    (sRet (cA gListC (aC (cV 3) aN))))
def F__law_inputs : List RV → Rs RV := fnD 4 B__law_inputs
def B_result_of : VEnv → Out :=
  (sSeq (sIf (cB (c2 gEq (cV 0) (cC (.str "+")))) (sRet (c2 gAdd (cV 1) (cV 2))) sNil)
    (sSeq (sIf (cB (c2 gEq (cV 0) (cC (.str "-")))) (sRet (c2 gSub (cV 1) (cV 2))) sNil)
    (sRet (c2 gMul (cV 1) (cV 2)))))
def F_result_of : List RV → Rs RV := fnD 3 B_result_of
def B_source_value : VEnv → Out :=
  (sSeq (sIf (cB (c2 gEq (c2 gIx (cV 0) (cC (.int 0))) (cC (.str "x")))) (sRet (c2 gIx (cV 1) (cA gInt (aC (cSl (cV 0) (oS (cC (.int 1))) oN) aN)))) sNil)
    (sSeq (sIf (cB (c2 gEq (c2 gIx (cV 0) (cC (.int 0))) (cC (.str "r")))) (sRet (c2 gIx (cV 2) (cA gInt (aC (cSl (cV 0) (oS (cC (.int 1))) oN) aN)))) sNil)
    (sRet (cA gInt (aC (cV 0) aN)))))
def F_source_value : List RV → Rs RV := fnD 3 B_source_value
def B_performed : VEnv → Out :=
  (sSeq (sUnp (.tp [4, 5, 6, 7, 8]) (cV 1))
    (sSeq (sSet 9 (cA (fun rs => if rs.length = 3 then F_result_of (rs.map RV.arg) else .no) (aC (cV 6) (aC (cA (fun rs => if rs.length = 3 then F_source_value (rs.map RV.arg) else .no) (aC (cV 7) (aC (cV 2) (aC (cV 3) aN)))) (aC (cA (fun rs => if rs.length = 3 then F_source_value (rs.map RV.arg) else .no) (aC (cV 8) (aC (cV 2) (aC (cV 3) aN)))) aN)))))
    (sSeq (sSet 10 (cA gListC (aC (cV 3) aN)))
    (sSeq (sIf (cB (c2 gEq (cV 5) (cC (.str "+")))) (sStore 10 (cV 4) (c2 gMod (c2 gAdd (c2 gIx (cV 10) (cV 4)) (cV 9)) (c2 gIx (cV 0) (cC (.int 0))))) (sStore 10 (cV 4) (c2 gMod (c2 gSub (c2 gIx (cV 10) (cV 4)) (cV 9)) (c2 gIx (cV 0) (cC (.int 0))))))
    (sRetV 10)))))
def F_performed : List RV → Rs RV := fnD 11 B_performed
def L0_traced : VEnv → Out :=
  (sApp 3 (cA (fun rs => if rs.length = 4 then F_performed (rs.map RV.arg) else .no) (aC (cV 0) (aC (cV 4) (aC (cV 2) (aC (c2 gIx (cV 3) (c1 gNeg (cC (.int 1)))) aN))))))
def B_traced : VEnv → Out :=
  (sSeq (sSet 3 (cA gList (aC (c2 gRep (cA gList (aC (cC (.int 0)) aN)) (cC (.int 8))) aN)))
    (sSeq (sFor (.nm 4) (iA (cV 1)) L0_traced)
    (sRetV 3)))
def F_traced : List RV → Rs RV := fnD 5 B_traced
def B_tracedR : VEnv → Out := sSeqN (sSetR 3 (c2 gRep (cA gList (aC (cC (.int 0)) aN)) (cC (.int 8)))) (sSeqN (sFor (.nm 4) (iA (cV 1)) (sAppO 3 (cA (fun rs => if rs.length = 4 then F_performed (rs.map RV.arg) else .no) (aC (cV 0) (aC (cV 4) (aC (cV 2) (aC (c2 gIx (cV 3) (c1 gNeg (cC (.int 1)))) aN))))))) (sRetV 3))
def F_tracedR : List RV → Rs RV := fnD 5 B_tracedR
def B__law_result : VEnv → Out :=
  (sSeq (sIf (cB (c2 gEq (cV 0) (cC (.str "+")))) (sRet (c2 gMod (c2 gAdd (cV 1) (cV 2)) (cV 3))) sNil)
    (sSeq (sIf (cB (c2 gEq (cV 0) (cC (.str "-")))) (sRet (c2 gMod (c2 gSub (cV 1) (cV 2)) (cV 3))) sNil)
    (sRet (c2 gMod (c2 gMul (cV 1) (cV 2)) (cV 3)))))
def F__law_result : List RV → Rs RV := fnD 4 B__law_result
def B__law_value : VEnv → Out :=
  (sSeq (sIf (cB (c2 gEq (c2 gIx (cV 0) (cC (.int 0))) (cC (.str "x")))) (sRet (c2 gIx (cV 1) (cA gInt (aC (cSl (cV 0) (oS (cC (.int 1))) oN) aN)))) sNil)
    (sSeq (sIf (bOr (cB (c2 gEq (c2 gIx (cV 0) (cC (.int 0))) (cC (.str "s")))) (cB (c2 gEq (c2 gIx (cV 0) (cC (.int 0))) (cC (.str "r"))))) (sRet (c2 gIx (cV 2) (cA gInt (aC (cSl (cV 0) (oS (cC (.int 1))) oN) aN)))) sNil)
    (sRet (cA gInt (aC (cV 0) aN)))))
def F__law_value : List RV → Rs RV := fnD 3 B__law_value
def L0__law_after : VEnv → Out :=
  (sSeq (sSet 10 (cA (fun rs => if rs.length = 4 then F__law_result (rs.map RV.arg) else .no) (aC (cV 7) (aC (cA (fun rs => if rs.length = 3 then F__law_value (rs.map RV.arg) else .no) (aC (cV 8) (aC (cV 2) (aC (cV 4) aN)))) (aC (cA (fun rs => if rs.length = 3 then F__law_value (rs.map RV.arg) else .no) (aC (cV 9) (aC (cV 2) (aC (cV 4) aN)))) (aC (c2 gIx (cV 0) (cC (.int 0))) aN))))))
    (sSeq (sIf (cB (c2 gEq (cV 6) (cC (.str "-")))) (sSet 10 (c1 gNeg (cV 10))) sNil)
    (sStore 4 (cV 5) (c2 gMod (c2 gAdd (c2 gIx (cV 4) (cV 5)) (cV 10)) (c2 gIx (cV 0) (cC (.int 0)))))))
def B__law_after : VEnv → Out :=
  (sSeq (sSet 4 (cA gListC (aC (cV 3) aN)))
    (sSeq (sFor (.tp [5, 6, 7, 8, 9]) (iA (cV 1)) L0__law_after)
    (sRetV 4)))
def F__law_after : List RV → Rs RV := fnD 11 B__law_after
def L0_law : VEnv → Out :=
  (sSeq (sSet 2 (cA (fun rs => if rs.length = 3 then F__law_program (rs.map RV.arg) else .no) (aC (cV 0) (aC (c2 gMul (cC (.int 4)) (cV 1)) (aC (cC (.int 4)) aN)))))
    (sSeq (sFz 2 (sSet 3 (cA (fun rs => if rs.length = 4 then F__law_random (rs.map RV.arg) else .no) (aC (cV 0) (aC (c2 gAdd (c2 gMul (cC (.int 4)) (cV 1)) (cC (.int 1))) (aC (cV 2) (aC (cC (.int 8)) aN)))))))
    (sSeq (sFz 2 (sSet 4 (cA (fun rs => if rs.length = 3 then F__law_inputs (rs.map RV.arg) else .no) (aC (cV 0) (aC (c2 gAdd (c2 gMul (cC (.int 4)) (cV 1)) (cC (.int 2))) (aC (cV 2) aN))))))
    (sSeq (sFz 4 (sFz 2 (sSet 5 (cLc (iR gR1 (aC (c2 gAdd (cA gLen (aC (cV 3) aN)) (cC (.int 1))) aN)) [7] (.nm 7) bYes (cA (fun rs => if rs.length = 4 then F__law_after (rs.map RV.arg) else .no) (aC (cV 2) (aC (cSl (cV 3) oN (oS (cV 7))) (aC (cV 4) (aC (c2 gRep (cA gList (aC (cC (.int 0)) aN)) (cC (.int 8))) aN)))))))))
    (sFz 2 (sFz 3 (sFz 4 (sSeq (sTold 6 (cA (fun rs => if rs.length = 3 then F_tracedR (rs.map RV.arg) else .no) (aC (cV 2) (aC (cV 3) (aC (cV 4) aN)))) (cB (c2 gNe (cV 6) (cV 5))) (c2 gAdd (c2 gIx (c2 gIx (cV 6) (cC (.int 0))) (cC (.int 0))) (cC (.int 1)))) (sFz 4 (sFz 3 (sFz 2 (sIf (bOr (cB (c2 gNe (cSl (cV 6) (oS (cC (.int 1))) oN) (cSl (cV 5) (oS (cC (.int 1))) oN))) (cB (c2 gNe (cA (fun rs => if rs.length = 3 then F_traced (rs.map RV.arg) else .no) (aC (cV 2) (aC (cV 3) (aC (cV 4) aN)))) (cV 5)))) (sRet (cC (.bool false))) sNil))))))))))))
def B_law : VEnv → Out :=
  (sSeq (sFor (.nm 1) (iR gR1 (aC (cA gMin2 (aC (cC (.int 12)) (aC (cA gMax2 (aC (cC (.int 1)) (aC (c2 gDiv (cA gLen (aC (cV 0) aN)) (cC (.int 4))) aN))) aN))) aN)) L0_law)
    (sRet (cC (.bool true))))
def F_law : List RV → Rs RV := fnD 8 B_law
def cell (ns : List Int) (k : Nat) : Int := ns.getD k 0
theorem cell_ok (ns : List Int) (k : Nat) : F__law_cell [.sc ns, .d (.int k)] = .ok (.d (.int (cell ns k))) := by
  unfold F__law_cell fnD B__law_cell
  simp [e_V]
  by_cases h : k < ns.length
  · simp [h, atI_lt, cell]
  · simp [h, cell]
structure Drawn (sizes ds : List Int) : Prop where
  len : ds.length = sizes.length
  lo : ∀ i (h : i < ds.length), 0 ≤ ds[i]
  hi : ∀ i (h : i < ds.length) (h' : i < sizes.length), ds[i] < sizes[i]
theorem Drawn.snoc {sizes ds : List Int} {s d : Int} (h : Drawn sizes ds) (h0 : 0 ≤ d) (h1 : d < s) : Drawn (sizes ++ [s]) (ds ++ [d]) := by
  refine ⟨by simp [h.len], fun i hi => ?_, fun i hi hi' => ?_⟩
  · by_cases c : i < ds.length
    · rw [List.getElem_append_left c]; exact h.lo i c
    · rw [List.getElem_append_right (by omega)]; simpa using h0
  · by_cases c : i < ds.length
    · rw [List.getElem_append_left c, List.getElem_append_left (by rw [← h.len]; exact c)]; exact h.hi i c _
    · rw [List.getElem_append_right (by omega), List.getElem_append_right (by rw [← h.len]; omega)]; simpa using h1
def Sizes (sizes : List Int) : Prop := ∀ s ∈ sizes, 0 < s ∧ s < 1073741824
theorem draw_far (sizes : List Int) (hs : Sizes sizes) (a b : RV) (k : PyData) : ∀ (xs pre ds : List Int) (c : Int) (j5 j6 j7 : Option RV), pre ++ xs = sizes → Drawn pre ds → sizes.length ≤ 1000 → 0 ≤ c →
    ∃ (ds' : List Int) (c' : Int) (j5' : Option RV), loopF (.nm 5) (sSeq (sApp 4 (c2 gMod (cV 3) (cV 5))) (sSet 3 (c2 gDiv (cV 3) (cV 5)))) (xs.map .int) [some a, some b, some (.d k), some (.d (.int c)), some (.ol (ds.map .int)), j5, j6, j7] = .nx [some a, some b, some (.d k), some (.d (.int c')), some (.ol (ds'.map .int)), j5', j6, j7] ∧ Drawn sizes ds'
  | [], pre, ds, c, j5, j6, j7, e, h, hl, h0 => ⟨ds, c, j5, rfl, by rw [← e, List.append_nil]; exact h⟩
  | x :: xs, pre, ds, c, j5, j6, j7, e, h, hl, h0 => by
    have hx0 : 0 < x ∧ x < 1073741824 := hs x (by rw [← e]; simp)
    have hx : 0 < x ∧ x.natAbs < 1073741824 := by omega
    have hlen : ds.length ≤ 1000000 := by
      have : pre.length ≤ sizes.length := by (rw [← e]; simp)
      rw [h.len]; omega
    obtain ⟨ds', c', j5', e1, d1⟩ := draw_far sizes hs a b k xs (pre ++ [x]) (ds ++ [c % x]) (c / x) (some (.d (.int x))) j6 j7 (by rw [← e]; simp) (h.snoc (Int.emod_nonneg c (by omega)) (Int.emod_lt_of_pos c hx.1)) hl (Int.ediv_nonneg h0 (by omega))
    refine ⟨ds', c', j5', ?_, d1⟩
    rw [List.map_cons, loopF_cons]
    simp [e_app, e_V, hx, hlen]
    simpa using e1
theorem draw_near (sizes : List Int) (hs : Sizes sizes) (a b : RV) (j3 j5 : Option RV) : ∀ (n i : Nat) (ds : List Int) (m : Int) (j7 : Option RV), i + n = sizes.length → Drawn (sizes.take i) ds → sizes.length ≤ 1000 → 0 ≤ m → m < 2147483647 →
    ∃ (ds' : List Int) (m' : Int) (j7' : Option RV), loopF (.nm 7) (sSeq (sSet 6 (c2 gMod (c2 gAdd (c2 gAdd (c2 gMul (cV 6) (cC (.int 48271))) (cC (.int 11))) (cV 7)) (cC (.int 2147483647))))
    (sSeq (sSet 6 (c2 gMod (c2 gAdd (c2 gMul (cV 6) (cC (.int 69621))) (cC (.int 3))) (cC (.int 2147483647))))
    (sApp 4 (c2 gMod (c2 gDiv (cV 6) (cC (.int 7))) (c2 gIx (cV 2) (cV 7)))))) ((List.range' i n).map fun k : Nat => .int (k : Int)) [some a, some b, some (.d (.list (sizes.map .int))), j3, some (.ol (ds.map .int)), j5, some (.d (.int m)), j7] = .nx [some a, some b, some (.d (.list (sizes.map .int))), j3, some (.ol (ds'.map .int)), j5, some (.d (.int m')), j7'] ∧ Drawn sizes ds'
  | 0, i, ds, m, j7, e, h, hl, h0, h1 => ⟨ds, m, j7, rfl, by rw [Nat.add_zero] at e; rw [e, List.take_length] at h; exact h⟩
  | n + 1, i, ds, m, j7, e, h, hl, h0, h1 => by
    have hi : i < sizes.length := by omega
    have hx : 0 < sizes[i] ∧ sizes[i] < 1073741824 := hs _ (List.getElem_mem hi)
    have hlen : ds.length ≤ 1000000 := by rw [h.len, List.length_take]; omega
    have q1 : 0 ≤ ((m * 48271 + 11 + (i : Int)) % 2147483647 * 69621 + 3) % 2147483647 := Int.emod_nonneg _ (by decide)
    have q2 : ((m * 48271 + 11 + (i : Int)) % 2147483647 * 69621 + 3) % 2147483647 < 2147483647 := Int.emod_lt_of_pos _ (by decide)
    have q3 : 0 ≤ (m * 48271 + 11 + (i : Int)) % 2147483647 := Int.emod_nonneg _ (by decide)
    have q4 : (m * 48271 + 11 + (i : Int)) % 2147483647 < 2147483647 := Int.emod_lt_of_pos _ (by decide)
    have et : sizes.take (i + 1) = sizes.take i ++ [sizes[i]] := by rw [List.take_add_one, List.getElem?_eq_getElem hi]; rfl
    obtain ⟨ds', m', j7', e1, d1⟩ := draw_near sizes hs a b j3 j5 n (i + 1) (ds ++ [((m * 48271 + 11 + (i : Int)) % 2147483647 * 69621 + 3) % 2147483647 / 7 % sizes[i]]) (((m * 48271 + 11 + (i : Int)) % 2147483647 * 69621 + 3) % 2147483647) (some (.d (.int i))) (by omega)
      (by rw [et]; exact h.snoc (Int.emod_nonneg _ (by omega)) (Int.emod_lt_of_pos _ hx.1)) hl q1 q2
    refine ⟨ds', m', j7', ?_, d1⟩
    rw [List.range'_succ, List.map_cons, loopF_cons]
    have b1 : m.natAbs < 18446744073709551616 := by omega
    have b2 : ((m * 48271 + 11 + (i : Int)) % 2147483647).natAbs < 18446744073709551616 := by omega
    have ea : atI (sizes.map PyData.int) (i : Int) = some (.int sizes[i]) := by rw [atI_lt (by omega) (by simpa using hi)]; simp [hi]
    simp [e_app, e_V, hlen, ea, hx, b1, b2]
    simpa using e1
def drawTail : VEnv → Out := (sSeq (sSet 4 (cA gList aN))
    (sSeq (sIf (cB (c2 gGe (cV 3) (c2 gPow (cC (.int 10)) (cC (.int 18))))) (sSeq (sSet 3 (c2 gSub (cV 3) (c2 gPow (cC (.int 10)) (cC (.int 18)))))
    (sSeq (sFor (.nm 5) (iL (cV 2)) (sSeq (sApp 4 (c2 gMod (cV 3) (cV 5)))
    (sSet 3 (c2 gDiv (cV 3) (cV 5)))))
    (sRetV 4))) sNil)
    (sSeq (sSet 6 (c2 gMod (c2 gAdd (c2 gAdd (cV 3) (cC (.int 1))) (c2 gMul (cC (.int 31)) (cV 1))) (cC (.int 2147483647))))
    (sSeq (sFor (.nm 7) (iR gR1 (aC (cA gLen (aC (cV 2) aN)) aN)) (sSeq (sSet 6 (c2 gMod (c2 gAdd (c2 gAdd (c2 gMul (cV 6) (cC (.int 48271))) (cC (.int 11))) (cV 7)) (cC (.int 2147483647))))
    (sSeq (sSet 6 (c2 gMod (c2 gAdd (c2 gMul (cV 6) (cC (.int 69621))) (cC (.int 3))) (cC (.int 2147483647))))
    (sApp 4 (c2 gMod (c2 gDiv (cV 6) (cC (.int 7))) (c2 gIx (cV 2) (cV 7)))))))
    (sRetV 4)))))
theorem draw_far' (ns : List Int) (k : Nat) (sizes : List Int) (hs : Sizes sizes) (hl : sizes.length ≤ 1000) (c : Int) (hf : 1000000000000000000 ≤ c) :
    ∃ ds : List Int, drawTail [some (.sc ns), some (.d (.int k)), some (.d (.list (sizes.map .int))), some (.d (.int c)), none, none, none, none] = .rt (.ol (ds.map .int)) ∧ Drawn sizes ds := by
  obtain ⟨ds', c', j5', e1, d1⟩ := draw_far sizes hs (.sc ns) (.d (.int k)) (.list (sizes.map .int)) sizes [] [] (c - 1000000000000000000) none none none (by simp) ⟨rfl, fun i h => by simp at h, fun i h => by simp at h⟩ hl (by omega)
  refine ⟨ds', ?_, d1⟩
  simp at e1
  unfold drawTail
  simp [e_V, hf, e1, e_retV]
theorem mix_ok (ns : List Int) (k : Nat) (sizes : List Int) (c : Int) : sSet 6 (c2 gMod (c2 gAdd (c2 gAdd (cV 3) (cC (.int 1))) (c2 gMul (cC (.int 31)) (cV 1))) (cC (.int 2147483647))) [some (.sc ns), some (.d (.int k)), some (.d (.list (sizes.map .int))), some (.d (.int c)), some (.ol []), none, none, none]
      = .nx [some (.sc ns), some (.d (.int k)), some (.d (.list (sizes.map .int))), some (.d (.int c)), some (.ol []), none, some (.d (.int ((c + 1 + 31 * (k : Int)) % 2147483647))), none] := by
  simp only [e_set, e_c2, e_V, List.getElem?_cons_zero, List.getElem?_cons_succ, Rs.bind_ok, e_bor1, e_cC, e_addI]
  rw [e_mul, if_pos (Or.inl (by decide))]
  simp only [Rs.bind_ok, e_addI]
  rw [e_mod, if_pos (by decide)]
  simp only [Rs.out_ok, e_putd]
  rw [if_pos (by show 6 < 8; decide)]
  rfl
theorem draw_near' (ns : List Int) (k : Nat) (sizes : List Int) (hs : Sizes sizes) (hl : sizes.length ≤ 1000) (c : Int) (hf : ¬ 1000000000000000000 ≤ c) :
    ∃ ds : List Int, drawTail [some (.sc ns), some (.d (.int k)), some (.d (.list (sizes.map .int))), some (.d (.int c)), none, none, none, none] = .rt (.ol (ds.map .int)) ∧ Drawn sizes ds := by
  obtain ⟨m, hm⟩ : ∃ m, m = (c + 1 + 31 * (k : Int)) % 2147483647 := ⟨_, rfl⟩
  have m0 : 0 ≤ m := by rw [hm]; exact Int.emod_nonneg _ (by decide)
  have m1 : m < 2147483647 := by rw [hm]; exact Int.emod_lt_of_pos _ (by decide)
  have hset := mix_ok ns k sizes c
  rw [← hm] at hset
  clear hm
  obtain ⟨ds', m', j7', e1, d1⟩ := draw_near sizes hs (.sc ns) (.d (.int k)) (some (.d (.int c))) none sizes.length 0 [] m none (by omega) ⟨rfl, fun i h => by simp at h, fun i h => by simp at h⟩ hl m0 m1
  refine ⟨ds', ?_, d1⟩
  rw [← List.range_eq_range', ← rngL_eq] at e1
  have hr : iR gR1 (aC (cA gLen (aC (cV 2) aN)) aN) [some (.sc ns), some (.d (.int k)), some (.d (.list (sizes.map .int))), some (.d (.int c)), some (.ol []), none, some (.d (.int m)), none] = .ok (rngL 0 sizes.length) := by
    have b1 : (sizes.map PyData.int).length ≤ 1000000 := by rw [List.length_map]; omega
    have := e_R1n b1
    rw [List.length_map] at this
    simp only [e_iR, e_aC, e_cA, e_aN, e_V, List.getElem?_cons_succ, List.getElem?_cons_zero, Rs.bind_ok, e_bor1, e_lenL, List.length_map]
    exact this
  have hc : cB (c2 gGe (cV 3) (c2 gPow (cC (.int 10)) (cC (.int 18)))) [some (.sc ns), some (.d (.int k)), some (.d (.list (sizes.map .int))), some (.d (.int c)), some (.ol []), none, none, none] = .ok false := by
    simp [e_V, hf]
  have h4 : sSet 4 (cA gList aN) [some (.sc ns), some (.d (.int k)), some (.d (.list (sizes.map .int))), some (.d (.int c)), none, none, none, none] = .nx [some (.sc ns), some (.d (.int k)), some (.d (.list (sizes.map .int))), some (.d (.int c)), some (.ol []), none, none, none] := by simp
  unfold drawTail
  rw [e_seq, h4, Out.then_nx, e_seq, e_if, hc]
  simp only [Rs.out_ok, Bool.false_eq_true, if_false, e_nil, Out.then_nx]
  rw [e_seq, hset, Out.then_nx, e_seq, e_for, hr]
  simp only [Rs.out_ok]
  rw [show ([] : List PyData) = ([] : List Int).map .int from rfl, e1]
  simp [e_retV]
theorem draw_ok (ns : List Int) (k : Nat) (sizes : List Int) (hs : Sizes sizes) (hl : sizes.length ≤ 1000) : ∃ ds : List Int, F__law_draw [.sc ns, .d (.int k), .d (.list (sizes.map .int))] = .ok (.ol (ds.map .int)) ∧ Drawn sizes ds := by
  have eb : B__law_draw = sSeq (sSet 3 (cA (fun rs => if rs.length = 2 then F__law_cell (rs.map RV.arg) else .no) (aC (cV 0) (aC (cV 1) aN))))
    (sSeq (sIf (cB (c2 gLt (cV 3) (cC (.int 0)))) (sSet 3 (c1 gNeg (cV 3))) sNil) drawTail) := rfl
  unfold F__law_draw fnD
  rw [eb]
  have hc := cell_ok ns k
  generalize cell ns k = c at hc
  have step : ∀ c : Int, ∃ ds : List Int, drawTail [some (.sc ns), some (.d (.int k)), some (.d (.list (sizes.map .int))), some (.d (.int c)), none, none, none, none] = .rt (.ol (ds.map .int)) ∧ Drawn sizes ds := fun c => by
    by_cases hf : (1000000000000000000 : Int) ≤ c
    · exact draw_far' ns k sizes hs hl c hf
    · exact draw_near' ns k sizes hs hl c hf
  simp [e_V, hc]
  by_cases hn : c < 0
  · obtain ⟨ds, e1, d1⟩ := step (-c)
    refine ⟨ds, ?_, d1⟩
    simp [hn, e_V, e1]
  · obtain ⟨ds, e1, d1⟩ := step c
    refine ⟨ds, ?_, d1⟩
    simp [hn, e_V, e1]
theorem loopF_ex {β : Type} {tg : Tg} {f : VEnv → Out} (R : Nat → VEnv → Prop) (emb : β → PyData) (xs : List β) (env : VEnv)
    (h : ∀ i env x, xs[i]? = some x → R i env → ∃ e1, tgE tg (emb x) env = some e1 ∧ ∃ env', (f e1 = .nx env' ∨ f e1 = .ct env') ∧ R (i + 1) env') (h0 : R 0 env) : ∃ env', loopF tg f (xs.map emb) env = .nx env' ∧ R xs.length env' := by
  obtain ⟨env', e, r⟩ := loopF_rel (α := Unit) (fun i _ env => R i env) emb (fun _ _ => ()) xs () env (fun i _ env x hx r => h i env x hx r) h0
  exact ⟨env', e, r⟩
def natI (k : Nat) : PyData := .int (k : Int)
theorem rng_nat (n : Nat) : rngL 0 n = (List.range n).map natI := rngL_eq n
structure Asc (b : Int) (xs : List Int) : Prop where
  up : xs.Pairwise (· < ·)
  lo : ∀ x ∈ xs, 0 ≤ x
  hi : ∀ x ∈ xs, x < b
theorem Asc.nil (b : Int) : Asc b [] := ⟨.nil, by simp, by simp⟩
theorem Asc.snoc {b x : Int} {xs : List Int} (h : Asc x xs) (h0 : 0 ≤ x) (h1 : x < b) : Asc b (xs ++ [x]) :=
  ⟨List.pairwise_append.mpr ⟨h.up, List.pairwise_singleton _ _, fun y hy z hz => by rw [List.mem_singleton.mp hz]; exact h.hi y hy⟩,
    fun y hy => by rcases List.mem_append.mp hy with z | z; exact h.lo y z; rw [List.mem_singleton.mp z]; exact h0,
    fun y hy => by rcases List.mem_append.mp hy with z | z; (have := h.hi y z; omega); rw [List.mem_singleton.mp z]; exact h1⟩
theorem Asc.mono {b c : Int} {xs : List Int} (h : Asc b xs) (e : b ≤ c) : Asc c xs := ⟨h.up, h.lo, fun x hx => Int.lt_of_lt_of_le (h.hi x hx) e⟩
theorem Asc.len {b : Nat} : ∀ {xs : List Int}, Asc b xs → xs.length ≤ b := by
  induction b with
  | zero => intro xs h; cases xs with
    | nil => simp
    | cons x xs => have := h.lo x List.mem_cons_self; have := h.hi x List.mem_cons_self; omega
  | succ b ih =>
    intro xs h
    rcases List.eq_nil_or_concat xs with rfl | ⟨ys, y, rfl⟩
    · simp
    · rw [List.concat_eq_append] at h ⊢
      have hu := List.pairwise_append.mp h.up
      have : Asc (b : Int) ys := ⟨hu.1, fun z hz => h.lo z (List.mem_append_left _ hz), fun z hz => by
        have h1 := hu.2.2 z hz y (List.mem_singleton.mpr rfl)
        have h2 := h.hi y (List.mem_append_right _ (List.mem_singleton.mpr rfl))
        omega⟩
      have := ih this
      simp
      omega
theorem drawn_at {sizes ds : List Int} (h : Drawn sizes ds) {i : Nat} {s : Int} (hi : sizes[i]? = some s) : ∃ d, ds[i]? = some d ∧ 0 ≤ d ∧ d < s := by
  obtain ⟨h1, h2⟩ := List.getElem?_eq_some_iff.mp hi
  have h3 : i < ds.length := by rw [h.len]; exact h1
  exact ⟨ds[i], List.getElem?_eq_getElem h3, h.lo i h3, by rw [← h2]; exact h.hi i h3 h1⟩
theorem atI_ints {ds : List Int} {i : Nat} {d : Int} (h : ds[i]? = some d) : atI (ds.map PyData.int) (i : Int) = some (.int d) := by
  rw [atI_lt (by omega) (by simpa using (List.getElem?_eq_some_iff.mp h).1)]
  simp [h]
theorem range_at {n i x : Nat} (h : (List.range n)[i]? = some x) : x = i ∧ i < n := by
  have hi : i < n := by simpa using (List.getElem?_eq_some_iff.mp h).1
  rw [List.getElem?_range hi] at h
  exact ⟨(Option.some.inj h).symm, hi⟩
theorem draw_nat (ns : List Int) (k : Nat) (sz : List Nat) (hs : ∀ s ∈ sz, 0 < s ∧ s < 1000000) (hl : sz.length ≤ 1000) : ∃ nd : List Nat, F__law_draw [.sc ns, .d (.int k), .d (.list (sz.map natI))] = .ok (.ol (nd.map natI)) ∧ nd.length = sz.length ∧ ∀ (i s : Nat), sz[i]? = some s → ∃ d, nd[i]? = some d ∧ d < s := by
  obtain ⟨ds, e, dr⟩ := draw_ok ns k (sz.map fun n : Nat => (n : Int)) (by
    intro s hs'
    obtain ⟨n, hn, rfl⟩ := List.mem_map.mp hs'
    have := hs n hn
    omega) (by simpa using hl)
  have el : ds.length = sz.length := by have := dr.len; simpa using this
  have eds : ds = (ds.map Int.toNat).map fun n : Nat => (n : Int) := by
    rw [List.map_map]
    refine (List.map_id _).symm.trans (List.map_congr_left fun x hx => ?_)
    obtain ⟨i, hi, rfl⟩ := List.getElem_of_mem hx
    have := dr.lo i hi
    show ds[i] = ((ds[i].toNat : Nat) : Int)
    omega
  have m1 : (sz.map fun n : Nat => (n : Int)).map PyData.int = sz.map natI := by rw [List.map_map]; rfl
  have m2 : ds.map PyData.int = (ds.map Int.toNat).map natI := by
    conv => lhs; rw [eds]
    rw [List.map_map]; rfl
  rw [m1, m2] at e
  refine ⟨ds.map Int.toNat, e, by simpa using el, fun i s hi => ?_⟩
  obtain ⟨d, q1, q2, q3⟩ := drawn_at dr (i := i) (s := (s : Int)) (by rw [List.getElem?_map, hi]; rfl)
  exact ⟨d.toNat, by rw [List.getElem?_map, q1]; rfl, by omega⟩
theorem atI_nats {ds : List Nat} {i d : Nat} (h : ds[i]? = some d) : atI (ds.map natI) (i : Int) = some (natI d) := by
  rw [atI_lt (by omega) (by simpa using (List.getElem?_eq_some_iff.mp h).1)]
  simp [h]
theorem e_modN (a n : Nat) (h : 0 < n) : gMod (.d (.int a)) (.d (.int n)) = .ok (.d (.int ((a % n : Nat) : Int))) := by
  rw [e_mod, if_pos (by omega)]
  rfl
def numS (n : Nat) : Str := Str.ofString (toString (n : Int))
def lx (c : Str) (n : Nat) : Str := c ++ numS n
theorem num_l (n : Nat) : (numS n).cps.toList = numL n := tl_num n
theorem num_len {n : Nat} (h : n < 100000) : (numS n).length ≤ 5 := by
  have e : (numS n).length = (numL n).length := by rw [← num_l n]; rfl
  rw [e]
  exact numL_len (by decide) (by simpa using h)
theorem log_ok (n : Nat) (h : n < 100000) : ((n : Int)).natAbs.log2 < 1920 := by
  have h1 : ((n : Int)).natAbs = n := rfl
  rw [h1]
  by_cases h0 : n = 0
  · subst h0; decide
  · exact (Nat.log2_lt h0).mpr (Nat.lt_of_lt_of_le h (by decide))
theorem str_ok {n : Nat} (h : n < 100000) : gStr [.d (.int n)] = .ok (.d (.str (numS n))) := if_pos (log_ok n h)
theorem int_ok {n : Nat} (h : n < 100000) : gInt [.d (.str (numS n))] = .ok (.d (.int n)) := by
  have e : PySem.intText? (numS n) = some (n : Int) := int_num (Nat.le_trans (numL_len (k := 5) (by decide) (by simpa using h)) (by decide))
  show (rsO (PySem.intText? (numS n))).bind _ = _
  rw [e]
  have := num_len h
  simp only [rsO_some, Rs.bind_ok]
  rw [if_pos (by omega)]
  rfl
theorem app_l (a b : Str) : (a ++ b).cps.toList = a.cps.toList ++ b.cps.toList := by
  show (a.cps ++ b.cps).toList = _
  simp
theorem str_ext {a b : Str} (h : a.cps.toList = b.cps.toList) : a = b := by
  cases a; cases b
  congr 1
  exact Array.toList_inj.mp h
structure Letter (c : Str) (k : Nat) : Prop where
  l : c.cps.toList = [k]
theorem let_x : Letter "x" 120 := ⟨by decide +kernel⟩
theorem let_r : Letter "r" 114 := ⟨by decide +kernel⟩
theorem let_s : Letter "s" 115 := ⟨by decide +kernel⟩
theorem Letter.eq {c : Str} {k : Nat} (h : Letter c k) : c = ⟨#[k]⟩ := str_ext h.l
theorem Letter.len {c : Str} {k : Nat} (h : Letter c k) : c.length = 1 := by
  have : c.length = c.cps.toList.length := by show c.cps.size = _; simp
  rw [this, h.l]; rfl
theorem lx_l {c : Str} {k : Nat} (h : Letter c k) (n : Nat) : (lx c n).cps.toList = k :: numL n := by
  unfold lx
  rw [app_l, h.l, num_l]; rfl
theorem lx_len {c : Str} {k : Nat} (h : Letter c k) {n : Nat} (hn : n < 100000) : (lx c n).length ≤ 6 := by
  have e : (lx c n).length = (lx c n).cps.toList.length := by show (lx c n).cps.size = _; simp
  have := numL_len (n := n) (k := 5) (by decide) (by simpa using hn)
  rw [e, lx_l h]
  simp
  exact this
theorem lx_head {c : Str} {k : Nat} (h : Letter c k) {n : Nat} (hn : n < 100000) : gIx (.d (.str (lx c n))) (.d (.int 0)) = .ok (.d (.str c)) := by
  have := lx_len h hn
  rw [e_ixS, if_pos (by omega), lx_l h, atI_zero]
  rw [h.eq]; rfl
theorem num_head {n : Nat} (hn : n < 100000) : ∃ d, 48 ≤ d ∧ d ≤ 57 ∧ gIx (.d (.str (numS n))) (.d (.int 0)) = .ok (.d (.str ⟨#[d]⟩)) := by
  have h1 := num_len hn
  have h2 := numL_digits n
  have h3 := numL_ne n
  rw [e_ixS, if_pos (by omega), num_l]
  cases e : numL n with
  | nil => exact absurd e h3
  | cons d ds =>
    have := h2 d (by rw [e]; exact List.mem_cons_self)
    exact ⟨d, by omega, by omega, by rw [atI_zero]; rfl⟩
theorem lx_tail {c : Str} {k : Nat} (h : Letter c k) {n : Nat} (hn : n < 100000) : gSl (.d (.str (lx c n))) (some 1) none = .ok (.d (.str (numS n))) := by
  have hl := lx_len h hn
  have e : (lx c n).length = (numL n).length + 1 := by
    have : (lx c n).length = (lx c n).cps.toList.length := by show (lx c n).cps.size = _; simp
    rw [this, lx_l h]; rfl
  show (if (lx c n).length ≤ 1000000 then Rs.ok (RV.d (.str (cutS (lx c n) (some 1) none))) else .no) = _
  rw [if_pos (by omega)]
  congr 3
  apply str_ext
  unfold cutS
  have e1 : HT.sIx (lx c n).length 0 (some 1) = 1 := by
    rw [show (1 : Int) = ((1 : Nat) : Int) from rfl, HT.sIx_nat]; omega
  rw [e1, HT.sIx_none, e, lx_l h, num_l]
  simp
@[simp] theorem eqv_str (a b : Str) : PyData.eqv (.str a) (.str b) = decide (a = b) := by
  rw [PyData.eqv]
  by_cases h : a = b <;> simp [h]
structure Nice (k : Nat) (d : PyData) : Prop where
  lay : d.canLay0 = true
  dep : d.depth ≤ k
theorem nice_all {k : Nat} : ∀ {ds : List PyData}, (∀ d ∈ ds, Nice k d) → PyData.canLayAll0 ds = true ∧ PyData.depthAll ds ≤ k
  | [], _ => ⟨rfl, Nat.zero_le _⟩
  | d :: ds, h => by
    obtain ⟨h1, h2⟩ := nice_all fun x hx => h x (List.mem_cons_of_mem _ hx)
    have h3 := h d List.mem_cons_self
    refine ⟨?_, ?_⟩
    · show (PyData.canLay0 d && PyData.canLayAll0 ds) = true
      rw [h3.lay, h1]; rfl
    · show max d.depth (PyData.depthAll ds) ≤ k
      have := h3.dep
      omega
theorem Nice.tup {k : Nat} {ds : List PyData} (h : ∀ d ∈ ds, Nice k d) : Nice (k + 1) (.tuple ds) := ⟨(nice_all h).1, Nat.succ_le_succ (nice_all h).2⟩
theorem Nice.lst {k : Nat} {ds : List PyData} (h : ∀ d ∈ ds, Nice k d) : Nice (k + 1) (.list ds) := ⟨(nice_all h).1, Nat.succ_le_succ (nice_all h).2⟩
theorem Nice.int (k : Nat) (i : Int) : Nice k (.int i) := ⟨rfl, Nat.zero_le _⟩
theorem Nice.bool (k : Nat) (i : Bool) : Nice k (.bool i) := ⟨rfl, Nat.zero_le _⟩
theorem Nice.none (k : Nat) : Nice k .none := ⟨rfl, Nat.zero_le _⟩
theorem Nice.str (k : Nat) {s : Str} (h : PyData.strOk s = true) : Nice k (.str s) := ⟨h, Nat.zero_le _⟩
theorem Nice.shaped {k : Nat} {d : PyData} (h : Nice k d) (hk : k ≤ 64) : SeqAt.shaped d = true := by
  unfold SeqAt.shaped
  rw [h.lay, decide_eq_true (Nat.le_trans h.dep hk)]
  rfl
theorem Nice.refl {k : Nat} {d : PyData} (h : Nice k d) : PyData.eqv d d = true := SeqAt.eqv_refl d h.lay
theorem ok_of {s : Str} (h : ∀ c ∈ s.cps.toList, c < 200) : PyData.strOk s = true := by
  unfold PyData.strOk
  rw [Array.all_eq_true']
  intro c hc
  have := h c (by simpa using hc)
  simp
  omega
theorem num_strOk (n : Nat) : PyData.strOk (numS n) = true := ok_of fun c hc => by
  rw [num_l] at hc
  have := numL_digits n c hc
  omega
theorem lx_strOk {c : Str} {k : Nat} (h : Letter c k) (hk : k < 200) (n : Nat) : PyData.strOk (lx c n) = true := ok_of fun d hd => by
  rw [lx_l h] at hd
  rcases List.mem_cons.mp hd with rfl | hd
  · exact hk
  · have := numL_digits n d hd
    omega
inductive Src where
  | x (i : Nat) | r (i : Nat) | c (n : Nat)
def Src.str : Src → Str
  | .x i => lx "x" i
  | .r i => lx "r" i
  | .c n => numS n
def Src.ok (n : Nat) : Src → Prop
  | .x i => i < n ∧ i < 100000
  | .r i => i < 8
  | .c k => k < 100000
def Src.val (ins regs : List Int) : Src → Int
  | .x i => ins.getD i 0
  | .r i => regs.getD i 0
  | .c n => n
theorem Src.strOk (s : Src) : PyData.strOk s.str = true := by
  cases s with
  | x i => exact lx_strOk let_x (by decide) i
  | r i => exact lx_strOk let_r (by decide) i
  | c n => exact num_strOk n
def Ls (a : RV) (xs : List Int) : Prop := a = .d (.list (xs.map .int)) ∨ a = .bl (xs.map .int)
theorem Ls.ix {a : RV} {xs : List Int} (h : Ls a xs) {i : Nat} (hi : i < xs.length) : gIx a.bor (.d (.int i)) = .ok (.d (.int (xs.getD i 0))) := by
  have e : atI (xs.map PyData.int) (i : Int) = some (.int (xs.getD i 0)) := by
    rw [atI_ints (d := xs.getD i 0)]
    simp [hi]
  rcases h with rfl | rfl <;> simp [e]
theorem r_ne_x : (("r" : Str) = "x") = False := by simp; decide +kernel
theorem sh_str {s : Str} (h : PyData.strOk s = true) : SeqAt.shaped (.str s) = true := (Nice.str 0 h).shaped (by decide)
theorem digit_ne {d k : Nat} {c : Str} (h : Letter c k) (h1 : d ≤ 57) (h2 : 57 < k) : ((⟨#[d]⟩ : Str) = c) = False := by
  rw [h.eq]; simp; omega
theorem digit_ok {d : Nat} (h1 : d ≤ 57) : PyData.strOk ⟨#[d]⟩ = true := ok_of fun c hc => by simp at hc; omega
theorem letx_ok : PyData.strOk "x" = true := by decide +kernel
theorem letr_ok : PyData.strOk "r" = true := by decide +kernel
theorem lets_ok : PyData.strOk "s" = true := by decide +kernel
theorem head_x (i : Nat) (h : i < 100000) (c : Str) (hc : PyData.strOk c = true) : (gIx (.d (.str (lx "x" i))) (.d (.int 0))).bind (fun a => gEq a (.d (.str c))) = .ok (.d (.bool (decide (("x" : Str) = c)))) := by
  rw [lx_head let_x h]
  simp [sh_str letx_ok, sh_str hc]
theorem head_r (i : Nat) (h : i < 100000) (c : Str) (hc : PyData.strOk c = true) : (gIx (.d (.str (lx "r" i))) (.d (.int 0))).bind (fun a => gEq a (.d (.str c))) = .ok (.d (.bool (decide (("r" : Str) = c)))) := by
  rw [lx_head let_r h]
  simp [sh_str letr_ok, sh_str hc]
theorem head_c (n : Nat) (h : n < 100000) {c : Str} {k : Nat} (hl : Letter c k) (hk : 57 < k) (hc : PyData.strOk c = true) : (gIx (.d (.str (numS n))) (.d (.int 0))).bind (fun a => gEq a (.d (.str c))) = .ok (.d (.bool false)) := by
  obtain ⟨d, h1, h2, e⟩ := num_head h
  rw [e]
  simp [sh_str (digit_ok h2), sh_str hc, digit_ne hl h2 hk]
inductive Op where
  | add | sub | mul
def Op.str : Op → Str
  | .add => "+"
  | .sub => "-"
  | .mul => "*"
def Op.ap (a b : Int) : Op → Int
  | .add => a + b
  | .sub => a - b
  | .mul => a * b
theorem op_ok (o : Op) : PyData.strOk o.str = true := by cases o <;> decide +kernel
theorem plus_ok : PyData.strOk "+" = true := by decide +kernel
theorem minus_ok : PyData.strOk "-" = true := by decide +kernel
theorem sub_ne_add : (("-" : Str) = "+") = False := by simp; decide +kernel
theorem add_ne_sub : (("+" : Str) = "-") = False := by simp; decide +kernel
theorem mul_ne_add : (("*" : Str) = "+") = False := by simp; decide +kernel
theorem mul_ne_sub : (("*" : Str) = "-") = False := by simp; decide +kernel
theorem star_ok : PyData.strOk "*" = true := by decide +kernel
structure Ins where
  reg : Nat
  neg : Bool
  op : Op
  l : Src
  r : Src
def Ins.sgn (i : Ins) : Str := if i.neg then "-" else "+"
def Ins.d (i : Ins) : PyData := .tuple [.int i.reg, .str i.sgn, .str i.op.str, .str i.l.str, .str i.r.str]
structure Ins.ok (n : Nat) (i : Ins) : Prop where
  reg : i.reg < 8
  l : i.l.ok n
  r : i.r.ok n
def Ins.do (m : Int) (ins regs : List Int) (i : Ins) : List Int :=
  let v := i.op.ap (i.l.val ins regs) (i.r.val ins regs)
  regs.set i.reg ((if i.neg then regs.getD i.reg 0 - v else regs.getD i.reg 0 + v) % m)
structure Regs (m : Int) (xs : List Int) : Prop where
  all : ∀ x ∈ xs, 0 ≤ x ∧ x < m
theorem Regs.at {m : Int} {xs : List Int} (h : Regs m xs) (i : Nat) (hm : 0 < m) : 0 ≤ xs.getD i 0 ∧ xs.getD i 0 < m := by
  by_cases hi : i < xs.length
  · have : xs.getD i 0 = xs[i] := by simp [hi]
    rw [this]; exact h.all _ (List.getElem_mem hi)
  · have : xs.getD i 0 = 0 := by simp [hi]
    omega
theorem Src.bound {m : Int} {ins regs : List Int} (hm : 0 < m) (h1 : Regs m ins) (h2 : Regs m regs) {n : Nat} {s : Src} (ho : s.ok n) : (s.val ins regs).natAbs < 100000 + m.natAbs := by
  cases s with
  | x i => have := h1.at i hm; show (ins.getD i 0).natAbs < _; omega
  | r i => have := h2.at i hm; show (regs.getD i 0).natAbs < _; omega
  | c k => have : k < 100000 := ho; show ((k : Int)).natAbs < _; omega
theorem Ls.arg {a : RV} {xs : List Int} (h : Ls a xs) : a.bor.arg = a := by rcases h with rfl | rfl <;> rfl
theorem Ls.list {a : RV} {xs : List Int} (h : Ls a xs) : gListC [a.bor] = .ok (.ol (xs.map .int)) := by rcases h with rfl | rfl <;> rfl
def progD (m n : Int) (st out : PyData) : PyData := .tuple [.int m, .int n, st, out]
theorem ixN_nat {n i : Nat} (h : i < n) : ixN n (i : Int) = some i := by
  unfold ixN
  rw [if_pos (by omega), if_pos (by omega)]
  rfl
theorem map_set_int (xs : List Int) (i : Nat) (v : Int) : (xs.map PyData.int).set i (.int v) = (xs.set i v).map .int := by rw [List.map_set]
theorem src_val (s : Src) {n : Nat} (ho : s.ok n) {a b : RV} {ins regs : List Int} (ha : Ls a ins) (hb : Ls b regs) (hi : ins.length = n) (hr : regs.length = 8) : F_source_value [.d (.str s.str), a, b] = .ok (.d (.int (s.val ins regs))) := by
  show (sSeq _ _ [some (.d (.str s.str)), some a, some b]).fin = _
  cases s with
  | x i =>
    obtain ⟨h1, h2⟩ := ho
    have e1 := head_x i h2 "x" letx_ok
    have e2 := ha.ix (i := i) (by omega)
    have e3 := lx_tail let_x h2
    have e4 := int_ok h2
    simp only [e_seq, e_if, e_cB, e_c2, e_V, List.getElem?_cons_zero, List.getElem?_cons_succ, Rs.bind_ok, e_bor1, e_cC, Src.str, e1, decide_true, e_asB, Rs.out_ok, if_true, e_ret, e_cA, e_aC, e_aN, e_sl, oS, e_oN, e3, e4, e2]
    rfl
  | r i =>
    have h2 : i < 100000 := by have : i < 8 := ho; omega
    have e1 := head_r i h2 "x" letx_ok
    have e1' := head_r i h2 "r" letr_ok
    have e2 := hb.ix (i := i) (by have : i < 8 := ho; omega)
    have e3 := lx_tail let_r h2
    have e4 := int_ok h2
    simp only [e_seq, e_if, e_cB, e_c2, e_V, List.getElem?_cons_zero, List.getElem?_cons_succ, Rs.bind_ok, e_bor1, e_cC, Src.str, e1, e1', decide_true, e_asB, Rs.out_ok, if_true, e_ret, e_cA, e_aC, e_aN, e_sl, oS, e_oN, e3, e4, e2, r_ne_x, decide_false, Bool.false_eq_true, if_false, e_nil, Out.then_nx]
    rfl
  | c k =>
    have h2 : k < 100000 := ho
    have e1 := head_c k h2 let_x (by decide) letx_ok
    have e1' := head_c k h2 let_r (by decide) letr_ok
    have e4 := int_ok h2
    simp only [e_seq, e_if, e_cB, e_c2, e_V, List.getElem?_cons_zero, List.getElem?_cons_succ, Rs.bind_ok, e_bor1, e_cC, Src.str, e1, e1', e_asB, Rs.out_ok, e_ret, e_cA, e_aC, e_aN, e4, Bool.false_eq_true, if_false, e_nil, Out.then_nx]
    rfl
theorem result_of_ok (o : Op) (a b : Int) (ha : a.natAbs < 18446744073709551616) : F_result_of [.d (.str o.str), .d (.int a), .d (.int b)] = .ok (.d (.int (o.ap a b))) := by
  show (sSeq _ _ [some (.d (.str o.str)), some (.d (.int a)), some (.d (.int b))]).fin = _
  cases o <;> simp [Op.str, Op.ap, e_V, sh_str plus_ok, sh_str minus_ok, sh_str star_ok, sub_ne_add, mul_ne_add, mul_ne_sub, ha]
theorem performed_ok {m n : Int} {st out : PyData} (hm : 0 < m) (hm2 : m ≤ 1000) (i : Ins) {k : Nat} (ho : i.ok k) {a b : RV} {ins regs : List Int} (ha : Ls a ins) (hb : Ls b regs) (hi : ins.length = k) (hr : regs.length = 8) (h1 : Regs m ins) (h2 : Regs m regs) :
    F_performed [.d (progD m n st out), .d i.d, a, b] = .ok (.ol ((i.do m ins regs).map .int)) := by
  have e1 := src_val i.l ho.l ha hb hi hr
  have e2 := src_val i.r ho.r ha hb hi hr
  have e3 := result_of_ok i.op (i.l.val ins regs) (i.r.val ins regs) (by have := Src.bound hm h1 h2 ho.l; omega)
  have hx : gIx (.bl (regs.map .int)) (.d (.int i.reg)) = .ok (.d (.int (regs.getD i.reg 0))) := Ls.ix (.inr rfl) (by have := ho.reg; omega)
  have hn : ixN (regs.map PyData.int).length (i.reg : Int) = some i.reg := ixN_nat (by have := ho.reg; simp; omega)
  show (sSeq _ _ [some (.d (progD m n st out)), some (.d i.d), some a, some b, none, none, none, none, none, none, none]).fin = _
  have s0 : sUnp (.tp [4, 5, 6, 7, 8]) (cV 1) [some (.d (progD m n st out)), some (.d i.d), some a, some b, none, none, none, none, none, none, none] = .nx [some (.d (progD m n st out)), some (.d i.d), some a, some b, some (.d (.int i.reg)), some (.d (.str i.sgn)), some (.d (.str i.op.str)), some (.d (.str i.l.str)), some (.d (.str i.r.str)), none, none] := by
    simp [e_unp, e_V, Ins.d]
  rw [e_seq, s0, Out.then_nx]
  simp only [e_seq, e_set, e_cA, e_aC, e_aN, e_V, List.getElem?_cons_zero, List.getElem?_cons_succ, Rs.bind_ok, e_bor1, List.length_cons, List.length_nil, Nat.reduceAdd, if_true, List.map_cons, List.map_nil, e_arg1, ha.arg, hb.arg, e1, e2, e3, Rs.out_ok, e_putd, Nat.reduceLT, List.set_cons_succ, List.set_cons_zero, Out.then_nx, hb.list, e_puto]
  have hp : gIx (.d (progD m n st out)) (.d (.int 0)) = .ok (.d (.int m)) := rfl
  have hdo : regs.set i.reg ((if i.neg then regs.getD i.reg 0 - i.op.ap (i.l.val ins regs) (i.r.val ins regs) else regs.getD i.reg 0 + i.op.ap (i.l.val ins regs) (i.r.val ins regs)) % m) = i.do m ins regs := rfl
  generalize i.op.ap (i.l.val ins regs) (i.r.val ins regs) = v at hdo ⊢
  generalize regs.getD i.reg 0 = c at hx hdo ⊢
  cases hg : i.neg with
  | false =>
    rw [hg, if_neg Bool.false_ne_true] at hdo
    have hs : i.sgn = "+" := by simp [Ins.sgn, hg]
    simp only [e_if, e_cB, e_c2, e_V, List.getElem?_cons_zero, List.getElem?_cons_succ, Rs.bind_ok, e_bor1, e_bor2, e_cC, hs, e_eq, e_data1, rsO_some, sh_str plus_ok, and_self, if_true, eqv_str, decide_true, e_okB, e_asB, Rs.out_ok, e_store, hx, e_addI, hp, e_mod, hm, e_toD1, hn, Out.then_nx, e_retV, e_nb2, fin_rt, List.set_cons_succ, List.set_cons_zero, map_set_int, hdo]
  | true =>
    rw [hg, if_pos rfl] at hdo
    have hs : i.sgn = "-" := by simp [Ins.sgn, hg]
    simp only [e_if, e_cB, e_c2, e_V, List.getElem?_cons_zero, List.getElem?_cons_succ, Rs.bind_ok, e_bor1, e_bor2, e_cC, hs, e_eq, e_data1, rsO_some, sh_str plus_ok, sh_str minus_ok, and_self, if_true, eqv_str, sub_ne_add, decide_false, Bool.false_eq_true, if_false, e_okB, e_asB, Rs.out_ok, e_store, hx, e_sub, hp, e_mod, hm, e_toD1, hn, Out.then_nx, e_retV, e_nb2, fin_rt, List.set_cons_succ, List.set_cons_zero, map_set_int, hdo]
theorem Ins.do_len (m : Int) (ins regs : List Int) (i : Ins) : (i.do m ins regs).length = regs.length := by simp [Ins.do]
theorem Ins.do_regs {m : Int} (hm : 0 < m) {ins regs : List Int} (h : Regs m regs) (i : Ins) : Regs m (i.do m ins regs) := ⟨fun x hx => by
  rcases List.mem_or_eq_of_mem_set hx with z | rfl
  · exact h.all x z
  · exact ⟨Int.emod_nonneg _ (by omega), Int.emod_lt_of_pos _ hm⟩⟩
def runM (m : Int) (ins : List Int) (code : List Ins) (regs : List Int) : List Int := code.foldl (fun rs i => i.do m ins rs) regs
theorem r_ne_s : (("r" : Str) = "s") = False := by simp; decide +kernel
theorem law_value_ok (s : Src) {n : Nat} (ho : s.ok n) {a b : RV} {ins regs : List Int} (ha : Ls a ins) (hb : Ls b regs) (hi : ins.length = n) (hr : regs.length = 8) : F__law_value [.d (.str s.str), a, b] = .ok (.d (.int (s.val ins regs))) := by
  show (sSeq _ _ [some (.d (.str s.str)), some a, some b]).fin = _
  cases s with
  | x i =>
    obtain ⟨h1, h2⟩ := ho
    have e1 := head_x i h2 "x" letx_ok
    have e2 := ha.ix (i := i) (by omega)
    have e3 := lx_tail let_x h2
    have e4 := int_ok h2
    simp only [e_seq, e_if, e_cB, e_c2, e_V, List.getElem?_cons_zero, List.getElem?_cons_succ, Rs.bind_ok, e_bor1, e_cC, Src.str, e1, decide_true, e_asB, Rs.out_ok, if_true, e_ret, e_cA, e_aC, e_aN, e_sl, oS, e_oN, e3, e4, e2]
    rfl
  | r i =>
    have h2 : i < 100000 := by have : i < 8 := ho; omega
    have e1 := head_r i h2 "x" letx_ok
    have e1' := head_r i h2 "r" letr_ok
    have e1'' := head_r i h2 "s" lets_ok
    have e2 := hb.ix (i := i) (by have : i < 8 := ho; omega)
    have e3 := lx_tail let_r h2
    have e4 := int_ok h2
    simp only [e_seq, e_if, e_bOr, e_cB, e_c2, e_V, List.getElem?_cons_zero, List.getElem?_cons_succ, Rs.bind_ok, e_bor1, e_cC, Src.str, e1, e1', e1'', decide_true, e_asB, Rs.out_ok, if_true, e_ret, e_cA, e_aC, e_aN, e_sl, oS, e_oN, e3, e4, e2, r_ne_x, r_ne_s, decide_false, Bool.false_eq_true, if_false, e_nil, Out.then_nx]
    rfl
  | c k =>
    have h2 : k < 100000 := ho
    have e1 := head_c k h2 let_x (by decide) letx_ok
    have e1' := head_c k h2 let_r (by decide) letr_ok
    have e1'' := head_c k h2 let_s (by decide) lets_ok
    have e4 := int_ok h2
    simp only [e_seq, e_if, e_bOr, e_cB, e_c2, e_V, List.getElem?_cons_zero, List.getElem?_cons_succ, Rs.bind_ok, e_bor1, e_cC, Src.str, e1, e1', e1'', e_asB, Rs.out_ok, e_ret, e_cA, e_aC, e_aN, e4, Bool.false_eq_true, if_false, e_nil, Out.then_nx]
    rfl
theorem law_result_ok (o : Op) (a b m : Int) (hm : 0 < m) (ha : a.natAbs < 18446744073709551616) : F__law_result [.d (.str o.str), .d (.int a), .d (.int b), .d (.int m)] = .ok (.d (.int (o.ap a b % m))) := by
  show (sSeq _ _ [some (.d (.str o.str)), some (.d (.int a)), some (.d (.int b)), some (.d (.int m))]).fin = _
  cases o <;> simp [Op.str, Op.ap, e_V, sh_str plus_ok, sh_str minus_ok, sh_str star_ok, sub_ne_add, mul_ne_add, mul_ne_sub, ha, hm]
theorem after_ok {m n : Int} {st out : PyData} (hm : 0 < m) (hm2 : m ≤ 1000) {k : Nat} (code : List Ins) (hc : ∀ i ∈ code, i.ok k) {a b : RV} {ins regs : List Int} (ha : Ls a ins) (hb : Ls b regs) (hi : ins.length = k) (hr : regs.length = 8) (h1 : Regs m ins) (h2 : Regs m regs) :
    F__law_after [.d (progD m n st out), .d (.list (code.map Ins.d)), a, b] = .ok (.ol ((runM m ins code regs).map .int)) := by
  obtain ⟨env', e1, j5, j6, j7, j8, j9, j10, rfl, _, _⟩ := loopF_rel (tg := .tp [5, 6, 7, 8, 9]) (f := L0__law_after) (fun _ (rs : List Int) env => ∃ j5 j6 j7 j8 j9 j10, env = [some (.d (progD m n st out)), some (.d (.list (code.map Ins.d))), some a, some b, some (.ol (rs.map .int)), j5, j6, j7, j8, j9, j10] ∧ rs.length = 8 ∧ Regs m rs) Ins.d (fun rs i => i.do m ins rs) code regs
    [some (.d (progD m n st out)), some (.d (.list (code.map Ins.d))), some a, some b, some (.ol (regs.map .int)), none, none, none, none, none, none] (by
      rintro j rs env i hx ⟨j5, j6, j7, j8, j9, j10, rfl, hl, hR⟩
      have ho := hc i (List.mem_of_getElem? hx)
      have v1 := law_value_ok i.l ho.l ha (b := .bl (rs.map .int)) (.inr rfl) hi hl
      have v2 := law_value_ok i.r ho.r ha (b := .bl (rs.map .int)) (.inr rfl) hi hl
      have v3 := law_result_ok i.op (i.l.val ins rs) (i.r.val ins rs) m hm (by have := Src.bound hm h1 hR ho.l; omega)
      have hx : gIx (.bl (rs.map .int)) (.d (.int i.reg)) = .ok (.d (.int (rs.getD i.reg 0))) := Ls.ix (.inr rfl) (by have := ho.reg; omega)
      have hn : ixN (rs.map PyData.int).length (i.reg : Int) = some i.reg := ixN_nat (by have := ho.reg; simp; omega)
      have hp : gIx (.d (progD m n st out)) (.d (.int 0)) = .ok (.d (.int m)) := rfl
      have hdo : rs.set i.reg ((if i.neg then rs.getD i.reg 0 - i.op.ap (i.l.val ins rs) (i.r.val ins rs) else rs.getD i.reg 0 + i.op.ap (i.l.val ins rs) (i.r.val ins rs)) % m) = i.do m ins rs := rfl
      refine ⟨[some (.d (progD m n st out)), some (.d (.list (code.map Ins.d))), some a, some b, some (.ol (rs.map .int)), some (.d (.int i.reg)), some (.d (.str i.sgn)), some (.d (.str i.op.str)), some (.d (.str i.l.str)), some (.d (.str i.r.str)), j10], rfl, ?_⟩
      refine ⟨[some (.d (progD m n st out)), some (.d (.list (code.map Ins.d))), some a, some b, some (.ol ((i.do m ins rs).map .int)), some (.d (.int i.reg)), some (.d (.str i.sgn)), some (.d (.str i.op.str)), some (.d (.str i.l.str)), some (.d (.str i.r.str)), some (.d (.int (if i.neg then -(i.op.ap (i.l.val ins rs) (i.r.val ins rs) % m) else i.op.ap (i.l.val ins rs) (i.r.val ins rs) % m)))], .inl ?_, _, _, _, _, _, _, rfl, by rw [Ins.do_len]; exact hl, Ins.do_regs hm hR i⟩
      unfold L0__law_after
      simp only [e_seq, e_set, e_cA, e_aC, e_aN, e_V, List.getElem?_cons_zero, List.getElem?_cons_succ, Rs.bind_ok, e_bor1, e_bor2, List.length_cons, List.length_nil, Nat.reduceAdd, if_true, List.map_cons, List.map_nil, e_arg1, e_arg3, ha.arg, e_c2, e_cC, hp, v1, v2, v3, Rs.out_ok, e_putd, Nat.reduceLT, List.set_cons_succ, List.set_cons_zero, Out.then_nx]
      generalize i.op.ap (i.l.val ins rs) (i.r.val ins rs) = v at hdo ⊢
      generalize rs.getD i.reg 0 = c at hx hdo ⊢
      cases hg : i.neg with
      | false =>
        rw [hg, if_neg Bool.false_ne_true] at hdo
        have hs : i.sgn = "+" := by simp [Ins.sgn, hg]
        have hq : (c + v % m) % m = (c + v) % m := by simp
        simp only [e_if, e_cB, e_c2, e_V, List.getElem?_cons_zero, List.getElem?_cons_succ, Rs.bind_ok, e_bor1, e_bor2, e_cC, hs, e_eq, e_data1, rsO_some, sh_str plus_ok, sh_str minus_ok, and_self, if_true, eqv_str, add_ne_sub, decide_false, Bool.false_eq_true, if_false, e_okB, e_asB, Rs.out_ok, e_nil, Out.then_nx, e_store, hx, e_addI, hp, e_mod, hm, e_toD1, hn, List.set_cons_succ, List.set_cons_zero, map_set_int, hq, hdo]
      | true =>
        rw [hg, if_pos rfl] at hdo
        have hs : i.sgn = "-" := by simp [Ins.sgn, hg]
        have hq : (c + -(v % m)) % m = (c - v) % m := by rw [← Int.sub_eq_add_neg]; simp
        simp only [e_if, e_cB, e_c2, e_c1, e_set, e_neg, e_putd, List.length_cons, List.length_nil, Nat.reduceAdd, Nat.reduceLT, e_V, List.getElem?_cons_zero, List.getElem?_cons_succ, Rs.bind_ok, e_bor1, e_bor2, e_cC, hs, e_eq, e_data1, rsO_some, sh_str minus_ok, and_self, if_true, eqv_str, decide_true, e_okB, e_asB, Rs.out_ok, Out.then_nx, e_store, hx, e_addI, hp, e_mod, hm, e_toD1, hn, List.set_cons_succ, List.set_cons_zero, map_set_int, hq, hdo]) ⟨none, none, none, none, none, none, rfl, hr, h2⟩
  show (sSeq _ _ [some (.d (progD m n st out)), some (.d (.list (code.map Ins.d))), some a, some b, none, none, none, none, none, none, none]).fin = _
  have s0 : sSet 4 (cA gListC (aC (cV 3) aN)) [some (.d (progD m n st out)), some (.d (.list (code.map Ins.d))), some a, some b, none, none, none, none, none, none, none] = .nx [some (.d (progD m n st out)), some (.d (.list (code.map Ins.d))), some a, some b, some (.ol (regs.map .int)), none, none, none, none, none, none] := by
    simp only [e_set, e_cA, e_aC, e_aN, e_V, List.getElem?_cons_zero, List.getElem?_cons_succ, Rs.bind_ok, hb.list, Rs.out_ok, e_puto, List.length_cons, List.length_nil, Nat.reduceAdd, Nat.reduceLT, if_true, List.set_cons_succ, List.set_cons_zero]
  rw [e_seq, s0, Out.then_nx, e_seq, e_for]
  simp only [e_iA, e_V, List.getElem?_cons_zero, List.getElem?_cons_succ, Rs.bind_ok, e_bor1, e_gAq2, Rs.out_ok, e1, Out.then_nx, e_retV, e_nb2, fin_rt]
  rfl
inductive Opd where
  | x (i : Nat) | s (k : Nat) | c (v : Nat)
def Opd.str : Opd → Str
  | .x i => lx "x" i
  | .s k => lx "s" k
  | .c v => numS v
def Opd.ok (n many m : Nat) : Opd → Prop
  | .x i => i < n
  | .s k => k < many
  | .c v => v < m
theorem Opd.strOk (o : Opd) : PyData.strOk o.str = true := by
  cases o with
  | x i => exact lx_strOk let_x (by decide) i
  | s k => exact lx_strOk let_s (by decide) k
  | c v => exact num_strOk v
theorem str_len1 {c : Str} {k : Nat} (h : Letter c k) {n : Nat} (hn : n < 100000) : c.length + (numS n).length ≤ 1000000 := by
  have := h.len; have := num_len hn; omega
theorem add_lx {c : Str} {k : Nat} (h : Letter c k) {n : Nat} (hn : n < 100000) : gAdd (.d (.str c)) (.d (.str (numS n))) = .ok (.d (.str (lx c n))) := by
  rw [e_addS, if_pos (str_len1 h hn)]
  rfl
def opN : Nat → Op
  | 0 => .add
  | 1 => .sub
  | _ => .mul
theorem ops_ix (r : Nat) (h : r < 3) : gIx (.d (.str "+-*")) (.d (.int r)) = .ok (.d (.str (opN r).str)) := by
  have key : ∀ (r : Nat) (c : Nat) (s : Str), (("+-*" : Str).length ≤ 1000000) → atI ("+-*" : Str).cps.toList (r : Int) = some c → s = ⟨#[c]⟩ → gIx (.d (.str "+-*")) (.d (.int r)) = .ok (.d (.str s)) := fun r c s h1 h2 h3 => by
    rw [e_ixS, if_pos h1, h2, h3]; rfl
  match r, h with
  | 0, _ => exact key 0 43 _ (by decide +kernel) (by decide +kernel) (by decide +kernel)
  | 1, _ => exact key 1 45 _ (by decide +kernel) (by decide +kernel) (by decide +kernel)
  | 2, _ => exact key 2 42 _ (by decide +kernel) (by decide +kernel) (by decide +kernel)
theorem sgn_ix (r : Nat) (h : r < 2) : gIx (.d (.str "+-")) (.d (.int r)) = .ok (.d (.str (if decide (r = 1) then "-" else "+"))) := by
  have key : ∀ (r : Nat) (c : Nat) (s : Str), (("+-" : Str).length ≤ 1000000) → atI ("+-" : Str).cps.toList (r : Int) = some c → s = ⟨#[c]⟩ → gIx (.d (.str "+-")) (.d (.int r)) = .ok (.d (.str s)) := fun r c s h1 h2 h3 => by
    rw [e_ixS, if_pos h1, h2, h3]; rfl
  match r, h with
  | 0, _ => exact key 0 43 _ (by decide +kernel) (by decide +kernel) (by decide +kernel)
  | 1, _ => exact key 1 45 _ (by decide +kernel) (by decide +kernel) (by decide +kernel)
theorem take5 {l : List Nat} {a r0 r1 r2 r3 r4 : Nat} (h0 : l[a]? = some r0) (h1 : l[a + 1]? = some r1) (h2 : l[a + 2]? = some r2) (h3 : l[a + 3]? = some r3) (h4 : l[a + 4]? = some r4) : (l.drop a).take 5 = [r0, r1, r2, r3, r4] := by
  rw [drop_cons h0, drop_cons h1, drop_cons h2, drop_cons h3, drop_cons h4]; rfl
theorem take7 {l : List Nat} {a r0 r1 r2 r3 r4 r5 r6 : Nat} (h0 : l[a]? = some r0) (h1 : l[a + 1]? = some r1) (h2 : l[a + 2]? = some r2) (h3 : l[a + 3]? = some r3) (h4 : l[a + 4]? = some r4) (h5 : l[a + 5]? = some r5) (h6 : l[a + 6]? = some r6) : (l.drop a).take 7 = [r0, r1, r2, r3, r4, r5, r6] := by
  rw [drop_cons h0, drop_cons h1, drop_cons h2, drop_cons h3, drop_cons h4, drop_cons h5, drop_cons h6]; rfl
theorem cut_rowN (ds : List Nat) (a b : Nat) (h : a ≤ b) (h2 : b ≤ ds.length) : gSl (.bl (ds.map natI)) (some (a : Int)) (some (b : Int)) = .ok (.ol (((ds.drop a).take (b - a)).map natI)) := by
  show Rs.ok (RV.ol (cutL (ds.map natI) (some (a : Int)) (some (b : Int)))) = _
  unfold cutL
  rw [HT.sIx_nat, HT.sIx_nat, List.length_map, Nat.min_eq_left h2, Nat.min_eq_left (show a ≤ ds.length by omega), ← List.map_drop, ← List.map_take]
theorem rep_one (n : Nat) (x : Nat) : (List.replicate n [natI x]).flatten = (List.replicate n x).map natI := by
  induction n with
  | zero => rfl
  | succ n ih => rw [List.replicate_succ, List.flatten_cons, ih, List.replicate_succ, List.map_cons]; rfl
structure Stp where
  op : Op
  l : Opd
  r : Opd
def Stp.d (s : Stp) : PyData := .tuple [.str s.op.str, .str s.l.str, .str s.r.str]
theorem Stp.nice (s : Stp) : Nice 1 s.d := Nice.tup fun d hd => by
  simp at hd
  rcases hd with rfl | rfl | rfl
  · exact Nice.str 0 (op_ok _)
  · exact Nice.str 0 (Opd.strOk _)
  · exact Nice.str 0 (Opd.strOk _)
theorem stps_nice (ss : List Stp) : Nice 2 (.list (ss.map Stp.d)) := Nice.lst fun d hd => by
  obtain ⟨s, _, rfl⟩ := List.mem_map.mp hd
  exact s.nice
def StpsOk (m n : Nat) (ss : List Stp) : Prop := ∀ (k : Nat) (s : Stp), ss[k]? = some s → s.l.ok n k m ∧ s.r.ok n k m
theorem Opd.mono {n a b m : Nat} (h : a ≤ b) : ∀ {o : Opd}, o.ok n a m → o.ok n b m
  | .x _, h' => h'
  | .s _, h' => Nat.lt_of_lt_of_le h' h
  | .c _, h' => h'
structure OutsOk (k : Nat) (os : List Nat) : Prop where
  up : os.Pairwise (· < ·)
  hi : ∀ o ∈ os, o < k
  last : k - 1 ∈ os
theorem nat_any (os : List Nat) (k : Nat) : ((os.map natI).any fun z => PyData.eqv z (.int k)) = decide (k ∈ os) := by
  rw [List.any_map]
  induction os with
  | nil => rfl
  | cons o os ih =>
    rw [List.any_cons, ih]
    simp only [Function.comp, natI, eqv_int, List.mem_cons]
    by_cases h : k = o
    · simp [h]
    · by_cases h2 : k ∈ os
      · simp [h2]
      · simp [h2, h]; omega
theorem sh_natsL (os : List Nat) : SeqAt.shaped (.list (os.map natI)) = true := by
  have := sh_lst (os.map fun n : Nat => (n : Int))
  rwa [List.map_map] at this
theorem StpsOk.snoc {m n : Nat} {ss : List Stp} (h : StpsOk m n ss) {s : Stp} (hl : s.l.ok n ss.length m) (hr : s.r.ok n ss.length m) : StpsOk m n (ss ++ [s]) := by
  intro k s' hk
  rcases Nat.lt_trichotomy k ss.length with h' | h' | h'
  · exact h k s' (by rwa [List.getElem?_append_left h'] at hk)
  · subst h'
    rw [List.getElem?_append_right (Nat.le_refl _), Nat.sub_self] at hk
    cases hk
    exact ⟨hl, hr⟩
  · rw [List.getElem?_eq_none (by simp; omega)] at hk
    cases hk
theorem operand_ok (kind a m n many : Nat) (hm : 0 < m) (hm2 : m < 100000) (hn : 0 < n) (hn2 : n < 100000) (hy : many < 100000) : ∃ o : Opd, F__law_operand [.d (.int kind), .d (.int a), .d (.int m), .d (.int n), .d (.int many)] = .ok (.d (.str o.str)) ∧ o.ok n many m := by
  have b1 : a % n < 100000 := Nat.lt_trans (Nat.mod_lt a hn) hn2
  have b2 : a % m < 100000 := Nat.lt_trans (Nat.mod_lt a hm) hm2
  have c1 := str_ok b1
  have c2' := str_ok b2
  have m1 := e_modN a n hn
  have m2 := e_modN a m hm
  by_cases k0 : (kind : Int) = 0
  · refine ⟨.x (a % n), ?_, Nat.mod_lt a hn⟩
    show (sSeq _ _ [some (.d (.int kind)), some (.d (.int a)), some (.d (.int m)), some (.d (.int n)), some (.d (.int many))]).fin = _
    simp only [e_seq, e_if, e_cB, e_c2, e_V, List.getElem?_cons_zero, List.getElem?_cons_succ, Rs.bind_ok, e_bor1, e_cC, e_eq, e_data1, rsO_some, sh_int, and_self, if_true, eqv_int, decide_eq_true k0, e_okB, e_asB, Rs.out_ok, e_ret, e_cA, e_aC, e_aN, m1, c1, add_lx let_x b1, e_nb1, Out.then_rt, fin_rt]
    rfl
  · by_cases k1 : (kind : Int) = 1
    · refine ⟨.c (a % m), ?_, Nat.mod_lt a hm⟩
      show (sSeq _ _ [some (.d (.int kind)), some (.d (.int a)), some (.d (.int m)), some (.d (.int n)), some (.d (.int many))]).fin = _
      simp only [e_seq, e_if, e_bOr, e_cB, e_c2, e_V, List.getElem?_cons_zero, List.getElem?_cons_succ, Rs.bind_ok, e_bor1, e_cC, e_eq, e_data1, rsO_some, sh_int, and_self, if_true, eqv_int, decide_eq_false k0, decide_eq_true k1, Bool.false_eq_true, if_false, e_nil, Out.then_nx, e_okB, e_asB, Rs.out_ok, e_ret, e_cA, e_aC, e_aN, m2, c2', e_nb1, Out.then_rt, fin_rt]
      rfl
    · by_cases k2 : (many : Int) = 0
      · refine ⟨.c (a % m), ?_, Nat.mod_lt a hm⟩
        show (sSeq _ _ [some (.d (.int kind)), some (.d (.int a)), some (.d (.int m)), some (.d (.int n)), some (.d (.int many))]).fin = _
        simp only [e_seq, e_if, e_bOr, e_cB, e_c2, e_V, List.getElem?_cons_zero, List.getElem?_cons_succ, Rs.bind_ok, e_bor1, e_cC, e_eq, e_data1, rsO_some, sh_int, and_self, if_true, eqv_int, decide_eq_false k0, decide_eq_false k1, decide_eq_true k2, Bool.false_eq_true, if_false, e_nil, Out.then_nx, e_okB, e_asB, Rs.out_ok, e_ret, e_cA, e_aC, e_aN, m2, c2', e_nb1, Out.then_rt, fin_rt]
        rfl
      · have hp : 0 < many := by omega
        have m3 := e_modN a many hp
        have hlt := Nat.mod_lt a hp
        have b3 : many - 1 - a % many < 100000 := by omega
        have c3 := str_ok b3
        have e3 : (many : Int) - 1 - ((a % many : Nat) : Int) = ((many - 1 - a % many : Nat) : Int) := by omega
        refine ⟨.s (many - 1 - a % many), ?_, show _ < many by omega⟩
        show (sSeq _ _ [some (.d (.int kind)), some (.d (.int a)), some (.d (.int m)), some (.d (.int n)), some (.d (.int many))]).fin = _
        simp only [e_seq, e_if, e_bOr, e_cB, e_c2, e_V, List.getElem?_cons_zero, List.getElem?_cons_succ, Rs.bind_ok, e_bor1, e_cC, e_eq, e_data1, rsO_some, sh_int, and_self, if_true, eqv_int, decide_eq_false k0, decide_eq_false k1, decide_eq_false k2, Bool.false_eq_true, if_false, e_nil, Out.then_nx, e_okB, e_asB, Rs.out_ok, e_ret, e_cA, e_aC, e_aN, m3, e_sub, e3, c3, add_lx let_s b3, e_nb1, fin_rt]
        rfl
def szP (most : Nat) : List Nat := [12, 2, most, 3, 4, 13, 4, 13, 3, 4, 13, 4, 13, 3, 4, 13, 4, 13, 3, 4, 13, 4, 13, 3, 4, 13, 4, 13, 3, 4, 13, 4, 13, 3, 4, 13, 4, 13, 3, 3, 3, 3, 3, 3, 3, 3]
theorem szP_row (most j : Nat) (hj : j < 7) : (szP most)[3 + 5 * j]? = some 3 ∧ (szP most)[3 + 5 * j + 1]? = some 4 ∧ (szP most)[3 + 5 * j + 2]? = some 13 ∧ (szP most)[3 + 5 * j + 3]? = some 4 ∧ (szP most)[3 + 5 * j + 4]? = some 13 := by
  have : j = 0 ∨ j = 1 ∨ j = 2 ∨ j = 3 ∨ j = 4 ∨ j = 5 ∨ j = 6 := by omega
  rcases this with rfl | rfl | rfl | rfl | rfl | rfl | rfl <;> exact ⟨rfl, rfl, rfl, rfl, rfl⟩
theorem szP_last (most j : Nat) (hj : j < 8) : (szP most)[38 + j]? = some 3 := by
  have : j = 0 ∨ j = 1 ∨ j = 2 ∨ j = 3 ∨ j = 4 ∨ j = 5 ∨ j = 6 ∨ j = 7 := by omega
  rcases this with rfl | rfl | rfl | rfl | rfl | rfl | rfl | rfl <;> rfl
theorem prog_loop (a b c : Option RV) (nd : List Nat) (most m n cnt : Nat) (hd : nd.length = 46) (hb : ∀ (i s : Nat), (szP most)[i]? = some s → ∃ d, nd[i]? = some d ∧ d < s) (hc : cnt ≤ 7) (hm : 0 < m) (hm2 : m ≤ 1000) (hn : 0 < n) (hn2 : n ≤ 10) (j7 j8 j9 j10 j11 : Option RV) :
    ∃ ss j7' j8' j9' j10', loopF (.nm 7) L0__law_program ((List.range cnt).map natI) [a, b, c, some (.ol (nd.map natI)), some (.d (natI m)), some (.d (natI n)), some (.ol []), j7, j8, j9, j10, j11]
      = .nx [a, b, c, some (.ol (nd.map natI)), some (.d (natI m)), some (.d (natI n)), some (.ol (ss.map Stp.d)), j7', j8', j9', j10', j11] ∧ StpsOk m n ss ∧ ss.length ≤ cnt ∧ (1 ≤ cnt → 1 ≤ ss.length) := by
  obtain ⟨env', e1, ss, j7', j8', j9', j10', rfl, h1, h2, h3⟩ := loopF_ex (tg := .nm 7) (f := L0__law_program) (fun i env => ∃ ss j7 j8 j9 j10, env = [a, b, c, some (.ol (nd.map natI)), some (.d (natI m)), some (.d (natI n)), some (.ol (ss.map Stp.d)), j7, j8, j9, j10, j11] ∧ StpsOk m n ss ∧ ss.length ≤ i ∧ (1 ≤ i → 1 ≤ ss.length)) natI (List.range cnt)
    [a, b, c, some (.ol (nd.map natI)), some (.d (natI m)), some (.d (natI n)), some (.ol []), j7, j8, j9, j10, j11] (by
      rintro i env x hx ⟨ss, j7, j8, j9, j10, rfl, h1, h2, h3⟩
      have hi : i < cnt := by simpa using (List.getElem?_eq_some_iff.mp hx).1
      have ex : x = i := by rw [List.getElem?_range hi] at hx; exact (Option.some.inj hx).symm
      subst ex
      obtain ⟨z0, z1, z2, z3, z4⟩ := szP_row most x (by omega)
      obtain ⟨r0, q0, b0⟩ := hb _ _ z0
      obtain ⟨r1, q1, b1⟩ := hb _ _ z1
      obtain ⟨r2, q2, b2⟩ := hb _ _ z2
      obtain ⟨r3, q3, b3⟩ := hb _ _ z3
      obtain ⟨r4, q4, b4⟩ := hb _ _ z4
      have hrow : gSl (.bl (nd.map natI)) (some (3 + 5 * (x : Int))) (some (8 + 5 * (x : Int))) = .ok (.ol ([r0, r1, r2, r3, r4].map natI)) := by
        have := cut_rowN nd (3 + 5 * x) (8 + 5 * x) (by omega) (by omega)
        rw [show 8 + 5 * x - (3 + 5 * x) = 5 by omega, take5 q0 q1 q2 q3 q4] at this
        simpa using this
      obtain ⟨o1, f1, v1⟩ := operand_ok r1 r2 m n ss.length hm (by omega) hn (by omega) (by omega)
      obtain ⟨o2, f2, v2⟩ := operand_ok r3 r4 m n ss.length hm (by omega) hn (by omega) (by omega)
      have hop := ops_ix r0 b0
      have mulOk : (5 : Int).natAbs < 18446744073709551616 ∨ ((x : Int)).natAbs < 18446744073709551616 := .inl (by decide)
      let E := fun (ss' : List Stp) => [a, b, c, some (RV.ol (nd.map natI)), some (.d (natI m)), some (.d (natI n)), some (.ol (ss'.map Stp.d)), some (.d (natI x)), some (.ol ([r0, r1, r2, r3, r4].map natI)), some (.d (.str o1.str)), some (.d (.str o2.str)), j11]
      have hstep : ∃ t : Bool, L0__law_program [a, b, c, some (.ol (nd.map natI)), some (.d (natI m)), some (.d (natI n)), some (.ol (ss.map Stp.d)), some (.d (natI x)), j8, j9, j10, j11] = .nx (E (if t then ss ++ [⟨opN r0, o1, o2⟩] else ss)) ∧ (ss = [] → t = true) := by
        have sh1 : SeqAt.shaped (.tuple [.str (opN r0).str, .str o1.str, .str o2.str]) = true := (Stp.nice ⟨opN r0, o1, o2⟩).shaped (by decide)
        have sh2 : SeqAt.shaped (.list (ss.map Stp.d)) = true := (stps_nice ss).shaped (by decide)
        have hz : ss.length ≤ 1000000 := by omega
        obtain ⟨t, ht⟩ : ∃ t : Bool, t = !((ss.map Stp.d).any fun z => PyData.eqv z (.tuple [.str (opN r0).str, .str o1.str, .str o2.str])) := ⟨_, rfl⟩
        refine ⟨t, ?_, fun e => by rw [ht, e]; rfl⟩
        unfold L0__law_program
        simp only [List.map_cons, List.map_nil, natI] at hrow
        simp only [VT, oS, List.getElem?_cons_zero, List.getElem?_cons_succ, List.set_cons_succ, List.set_cons_zero, List.length_cons, List.length_nil, Nat.reduceAdd, Nat.reduceLT, Nat.reduceLeDiff, Nat.reduceEqDiff, if_true, if_false, List.map_cons, List.map_nil, Option.map_some, reduceIte, Option.bind_some, Option.bind_none, beq_self_eq_true, natI, if_pos mulOk, hrow, List.length_map, f1, f2, hop, sh1, sh2, if_pos hz, ← ht]
        cases t with
        | true =>
          simp only [if_true]
          rw [show E (ss ++ [⟨opN r0, o1, o2⟩]) = [a, b, c, some (RV.ol (nd.map natI)), some (.d (natI m)), some (.d (natI n)), some (.ol (ss.map Stp.d ++ [Stp.d ⟨opN r0, o1, o2⟩])), some (.d (natI x)), some (.ol ([r0, r1, r2, r3, r4].map natI)), some (.d (.str o1.str)), some (.d (.str o2.str)), j11] by simp only [E, List.map_append, List.map_cons, List.map_nil]]
          rfl
        | false => rfl
      obtain ⟨t, e1, ht⟩ := hstep
      refine ⟨[a, b, c, some (.ol (nd.map natI)), some (.d (natI m)), some (.d (natI n)), some (.ol (ss.map Stp.d)), some (.d (natI x)), j8, j9, j10, j11], rfl, E (if t then ss ++ [⟨opN r0, o1, o2⟩] else ss), .inl e1, (if t then ss ++ [⟨opN r0, o1, o2⟩] else ss), _, _, _, _, rfl, ?_, ?_, fun _ => ?_⟩
      · cases t with
        | false => exact h1
        | true =>
          intro k s hk
          rw [if_pos rfl] at hk
          rcases Nat.lt_trichotomy k ss.length with h | h | h
          · exact h1 k s (by rwa [List.getElem?_append_left h] at hk)
          · subst h
            rw [List.getElem?_append_right (Nat.le_refl _), Nat.sub_self] at hk
            cases hk
            exact ⟨v1, v2⟩
          · rw [List.getElem?_eq_none (by simp; omega)] at hk
            cases hk
      · cases t <;> simp <;> omega
      · cases t with
        | false =>
          show 1 ≤ ss.length
          exact Nat.lt_of_not_le fun h => Bool.false_ne_true (ht (List.eq_nil_of_length_eq_zero (by omega)))
        | true => simp) ⟨[], j7, j8, j9, j10, rfl, fun k s h => by simp at h, by simp, by simp⟩
  rw [List.length_range] at h2 h3
  exact ⟨ss, j7', j8', j9', j10', e1, h1, h2, h3⟩
theorem program_ok (ns : List Int) (k most : Nat) (h1 : 1 ≤ most) (h2 : most ≤ 7) : ∃ (m n : Nat) (ss : List Stp) (os : List Nat),
    F__law_program [.sc ns, .d (.int k), .d (.int most)] = .ok (.d (progD m n (.tuple (ss.map Stp.d)) (.tuple (os.map natI)))) ∧ 2 ≤ m ∧ m ≤ 13 ∧ 1 ≤ n ∧ n ≤ 2 ∧ StpsOk m n ss ∧ 1 ≤ ss.length ∧ ss.length ≤ most ∧ OutsOk ss.length os := by
  obtain ⟨nd, e1, hl, hb⟩ := draw_nat ns k (szP most) (by
    intro s hs
    simp only [szP, List.mem_cons, List.not_mem_nil, or_false] at hs
    omega) (by simp [szP])
  obtain ⟨d0, q0, b0⟩ := hb 0 12 rfl
  obtain ⟨d1, q1, b1⟩ := hb 1 2 rfl
  obtain ⟨d2, q2, b2⟩ := hb 2 most rfl
  have a0 : atI (nd.map natI) 0 = some (.int d0) := atI_nats (i := 0) q0
  have a1 : atI (nd.map natI) 1 = some (.int d1) := atI_nats (i := 1) q1
  have a2 : atI (nd.map natI) 2 = some (.int d2) := atI_nats (i := 2) q2
  obtain ⟨ss, j7, j8, j9, j10, e2, s1, s2, s3⟩ := prog_loop (some (.sc ns)) (some (.d (.int k))) (some (.d (.int most))) nd most (2 + d0) (1 + d1) (1 + d2) hl hb (by omega) (by omega) (by omega) (by omega) (by omega) none none none none none
  have s3 := s3 (by omega)
  have hr := e_R1n (n := 1 + d2) (by omega)
  rw [rng_nat] at hr
  have hr2 := e_R1n (n := ss.length) (by omega)
  rw [rng_nat] at hr2
  obtain ⟨os0, ho⟩ : ∃ os0, os0 = (List.range ss.length).filter fun j => decide (nd[38 + j]? = some 0) := ⟨_, rfl⟩
  have hc : ∀ (e : VEnv) (r6 : Option RV), e = [some (.sc ns), some (.d (.int k)), some (.d (.int most)), some (.ol (nd.map natI)), some (.d (natI (2 + d0))), some (.d (natI (1 + d1))), r6, none, j8, j9, j10, none] → lcF (.nm 7) (cB (c2 gEq (c2 gIx (cV 3) (c2 gAdd (cC (.int 38)) (cV 7))) (cC (.int 0)))) (cV 7) e ((List.range ss.length).map natI) = .ok (os0.map natI) := by
    rintro e r6 rfl
    rw [ho]
    refine lcF_map natI (fun j => decide (nd[38 + j]? = some 0)) natI (List.range ss.length) fun x hx => ⟨_, rfl, ?_, fun _ => ⟨.d (natI x), rfl, rfl⟩⟩
    have hx' : x < 8 := by have := List.mem_range.mp hx; omega
    obtain ⟨d, qd, bd⟩ := hb (38 + x) 3 (szP_last most x hx')
    have ad : atI (nd.map natI) (38 + (x : Int)) = some (.int d) := by
      have := atI_nats qd
      rwa [Int.natCast_add] at this
    simp only [VT, oS, List.getElem?_cons_zero, List.getElem?_cons_succ, List.set_cons_succ, List.set_cons_zero, List.length_cons, List.length_nil, Nat.reduceAdd, Nat.reduceLT, Nat.reduceLeDiff, Nat.reduceEqDiff, if_true, if_false, List.map_cons, List.map_nil, Option.map_some, reduceIte, Option.bind_some, Option.bind_none, beq_self_eq_true, natI, ad, qd, Option.some.injEq]
    congr 1
    rw [decide_eq_decide]
    omega
  have hos0 : os0.Pairwise (· < ·) := by rw [ho]; exact List.Pairwise.filter _ List.pairwise_lt_range
  have hos1 : ∀ o ∈ os0, o < ss.length := by
    intro o h
    rw [ho, List.mem_filter] at h
    exact List.mem_range.mp h.1
  have hlen : os0.length ≤ 1000000 := by
    have : os0.length ≤ (List.range ss.length).length := by rw [ho]; exact List.length_filter_le _ _
    rw [List.length_range] at this
    omega
  have hany := nat_any os0 (ss.length - 1)
  have hcast : (ss.length : Int) - 1 = ((ss.length - 1 : Nat) : Int) := by omega
  have hlr : ss.length ≤ 1000000 := by omega
  have hc' := hc _ (some (.ol (ss.map Stp.d))) rfl
  simp only [natI] at hc'
  have sI : SeqAt.shaped (.int ((ss.length - 1 : Nat) : Int)) = true := rfl
  have ec : (2 : Int) + (d0 : Int) = ((2 + d0 : Nat) : Int) := by omega
  have ec1 : (1 : Int) + (d1 : Int) = ((1 + d1 : Nat) : Int) := by omega
  have ec2 : (1 : Int) + (d2 : Int) = ((1 + d2 : Nat) : Int) := by omega
  have t0 : gAdd (RV.ol [.int 12, .int 2, .int most]) (.ol (List.replicate (7 : Int).toNat [PyData.int 3, .int 4, .int 13, .int 4, .int 13]).flatten) = .ok (.ol ([PyData.int 12, .int 2, .int most] ++ (List.replicate (7 : Int).toNat [PyData.int 3, .int 4, .int 13, .int 4, .int 13]).flatten)) := rfl
  have t1 : gAdd (RV.ol ([PyData.int 12, .int 2, .int most] ++ (List.replicate (7 : Int).toNat [PyData.int 3, .int 4, .int 13, .int 4, .int 13]).flatten)) (.ol (List.replicate (8 : Int).toNat [PyData.int 3]).flatten) = .ok (.ol ((szP most).map natI)) := rfl
  have r7 : gRep (.ol [PyData.int 3, .int 4, .int 13, .int 4, .int 13]) (.d (.int 7)) = .ok (.ol (List.replicate (7 : Int).toNat [PyData.int 3, .int 4, .int 13, .int 4, .int 13]).flatten) := e_rep rfl (by decide) (by decide)
  have r8 : gRep (.ol [PyData.int 3]) (.d (.int 8)) = .ok (.ol (List.replicate (8 : Int).toNat [PyData.int 3]).flatten) := e_rep rfl (by decide) (by decide)
  have eL : [some (RV.sc ns), some (.d (.int k)), some (.d (.int most)), some (.ol (nd.map natI)), some (.d (.int ((2 + d0 : Nat) : Int))), some (.d (.int ((1 + d1 : Nat) : Int))), some (.ol []), none, none, none, none, none] = [some (RV.sc ns), some (.d (.int k)), some (.d (.int most)), some (.ol (nd.map natI)), some (.d (natI (2 + d0))), some (.d (natI (1 + d1))), some (.ol []), none, none, none, none, none] := rfl
  have fin : ∀ os : List Nat, (F__law_program [.sc ns, .d (.int k), .d (.int most)] = .ok (.d (progD (2 + d0 : Nat) (1 + d1 : Nat) (.tuple (ss.map Stp.d)) (.tuple (os.map natI))))) → OutsOk ss.length os → ∃ (m n : Nat) (ss : List Stp) (os : List Nat),
    F__law_program [.sc ns, .d (.int k), .d (.int most)] = .ok (.d (progD m n (.tuple (ss.map Stp.d)) (.tuple (os.map natI)))) ∧ 2 ≤ m ∧ m ≤ 13 ∧ 1 ≤ n ∧ n ≤ 2 ∧ StpsOk m n ss ∧ 1 ≤ ss.length ∧ ss.length ≤ most ∧ OutsOk ss.length os :=
    fun os e o => ⟨2 + d0, 1 + d1, ss, os, e, by omega, by omega, by omega, by omega, s1, s3, by omega, o⟩
  have go : (fnD 12 B__law_program) [.sc ns, .d (.int k), .d (.int most)] = .ok (.d (progD (2 + d0 : Nat) (1 + d1 : Nat) (.tuple (ss.map Stp.d)) (.tuple ((if ss.length - 1 ∈ os0 then os0 else os0 ++ [ss.length - 1]).map natI)))) := by
    show (B__law_program [some (.sc ns), some (.d (.int k)), some (.d (.int most)), none, none, none, none, none, none, none, none, none]).fin = _
    unfold B__law_program
    simp only [VT, oS, List.getElem?_cons_zero, List.getElem?_cons_succ, List.set_cons_succ, List.set_cons_zero, List.length_cons, List.length_nil, Nat.reduceAdd, Nat.reduceLT, Nat.reduceLeDiff, Nat.reduceEqDiff, if_true, if_false, List.map_cons, List.map_nil, Option.map_some, reduceIte, Option.bind_some, Option.bind_none, beq_self_eq_true, r7, r8, t0, t1, e1, a0, a1, a2, ec, ec1, ec2, hr, eL, e2]
    simp only [VT, oS, List.getElem?_cons_zero, List.getElem?_cons_succ, List.set_cons_succ, List.set_cons_zero, List.length_cons, List.length_nil, Nat.reduceAdd, Nat.reduceLT, Nat.reduceLeDiff, Nat.reduceEqDiff, if_true, if_false, List.map_cons, List.map_nil, Option.map_some, reduceIte, Option.bind_some, Option.bind_none, beq_self_eq_true, List.length_map, List.length_range, hr2, if_pos hlr, hc', hcast, sh_natsL, hany, if_pos hlen, natI]
    by_cases hm : ss.length - 1 ∈ os0
    · simp only [hm, VT, oS, List.getElem?_cons_zero, List.getElem?_cons_succ, List.set_cons_succ, List.set_cons_zero, List.length_cons, List.length_nil, Nat.reduceAdd, Nat.reduceLT, Nat.reduceLeDiff, Nat.reduceEqDiff, if_true, if_false, List.map_cons, List.map_nil, Option.map_some, reduceIte, Option.bind_some, Option.bind_none, beq_self_eq_true, decide_true]
      rfl
    · simp only [hm, VT, oS, List.getElem?_cons_zero, List.getElem?_cons_succ, List.set_cons_succ, List.set_cons_zero, List.length_cons, List.length_nil, Nat.reduceAdd, Nat.reduceLT, Nat.reduceLeDiff, Nat.reduceEqDiff, if_true, if_false, List.map_cons, List.map_nil, Option.map_some, reduceIte, Option.bind_some, Option.bind_none, beq_self_eq_true, decide_false, List.map_append, natI]
      rfl
  refine fin _ go ?_
  split
  · rename_i hm
    exact ⟨hos0, hos1, hm⟩
  · rename_i hm
    refine ⟨List.pairwise_append.mpr ⟨hos0, List.pairwise_singleton _ _, fun a ha b hb => ?_⟩, fun o ho => ?_, by simp⟩
    · rw [List.mem_singleton.mp hb]
      have := hos1 a ha
      have : a ≠ ss.length - 1 := fun e => hm (e ▸ ha)
      omega
    · rcases List.mem_append.mp ho with z | z
      · exact hos1 o z
      · rw [List.mem_singleton.mp z]; omega
def Src.good (n m reg : Nat) : Src → Prop
  | .x i => i < n
  | .r i => i < 8 ∧ i ≠ reg
  | .c k => k < m
structure Ins.good (n m : Nat) (i : Ins) : Prop where
  reg : i.reg < 8
  l : i.l.good n m i.reg
  r : i.r.good n m i.reg
theorem Src.good.ok {n m reg : Nat} (hn : n ≤ 100000) (hm : m ≤ 100000) : ∀ {s : Src}, s.good n m reg → s.ok n
  | .x i, h => ⟨h, Nat.lt_of_lt_of_le h hn⟩
  | .r i, h => h.1
  | .c k, h => Nat.lt_of_lt_of_le h hm
theorem Ins.good.ok {n m : Nat} (hn : n ≤ 100000) (hm : m ≤ 100000) {i : Ins} (h : i.good n m) : i.ok n := ⟨h.reg, h.l.ok hn hm, h.r.ok hn hm⟩
def srcD (n m reg kind num : Nat) : Src := if kind = 0 then .x (num % n) else if kind = 1 then .c (num % m) else .r ((reg + 1 + num % 7) % 8)
theorem srcD_good {n m reg kind num : Nat} (hn : 0 < n) (hm : 0 < m) (hr : reg < 8) : (srcD n m reg kind num).good n m reg := by
  unfold srcD
  split
  · exact Nat.mod_lt _ hn
  · split
    · exact Nat.mod_lt _ hm
    · show _ ∧ _
      omega
theorem word_step (e0 e1 e3 e4 e5 e6 e11 : Option RV) (m n : Nat) (st out : PyData) (hm : 0 < m) (hm2 : m ≤ 1000) (hn : 0 < n) (hn2 : n ≤ 10) (rw8 : List PyData) (ws : List PyData) (reg kind num : Nat) (hr : reg < 8) (hw : ws.length ≤ 5) :
    L0__law_random [e0, e1, some (.d (progD m n st out)), e3, e4, e5, e6, some (.ol (.int reg :: rw8)), some (.ol ws), some (.d (.int kind)), some (.d (.int num)), e11]
     = .nx [e0, e1, some (.d (progD m n st out)), e3, e4, e5, e6, some (.ol (.int reg :: rw8)), some (.ol (ws ++ [.str (srcD n m reg kind num).str])), some (.d (.int kind)), some (.d (.int num)), some (.d (.str (srcD n m reg kind num).str))] := by
  have c1 := e_modN num 7 (by omega)
  have c2' : gMod (.d (.int ((reg : Int) + 1 + ((num % 7 : Nat) : Int)))) (.d (.int 8)) = .ok (.d (.int (((reg + 1 + num % 7) % 8 : Nat) : Int))) := e_modN (reg + 1 + num % 7) 8 (by omega)
  have bx : num % n < 100000 := by have := Nat.mod_lt num hn; omega
  have bc : num % m < 100000 := by have := Nat.mod_lt num hm; omega
  have br : (reg + 1 + num % 7) % 8 < 100000 := by omega
  have s1 := str_ok br
  have s2 := add_lx let_r br
  have s3 := str_ok bx
  have s4 := add_lx let_x bx
  have s5 := str_ok bc
  have c3 := e_modN num n hn
  have c4 := e_modN num m hm
  have hw : ws.length ≤ 1000000 := by omega
  have c1 : gMod (.d (.int (num : Int))) (.d (.int 7)) = .ok (.d (.int ((num % 7 : Nat) : Int))) := c1
  have w0 : ∀ xs : List PyData, atI xs 0 = xs[0]? := fun xs => by cases xs with
    | nil => rfl
    | cons x xs => exact atI_zero x xs
  unfold L0__law_random progD
  have key : ∀ P : Prop, P → True := fun _ _ => trivial
  by_cases k0 : kind = 0
  · subst k0
    have sd : srcD n m reg 0 num = .x (num % n) := rfl
    simp only [VT, oS, List.getElem?_cons_zero, List.getElem?_cons_succ, List.set_cons_succ, List.set_cons_zero, List.length_cons, List.length_nil, Nat.reduceAdd, Nat.reduceLT, Nat.reduceLeDiff, Nat.reduceEqDiff, if_true, if_false, List.map_cons, List.map_nil, Option.map_some, reduceIte, Option.bind_some, Option.bind_none, List.append_nil, List.nil_append, List.cons_append, beq_self_eq_true, c1, c2', s1, s2, s3, s4, c3, c4, sd, Src.str, if_pos hw, decide_true, decide_false, Int.natCast_zero]
    simp (config := {decide := true}) only [VT, oS, List.getElem?_cons_zero, List.getElem?_cons_succ, List.set_cons_succ, List.set_cons_zero, List.length_cons, List.length_nil, Nat.reduceAdd, Nat.reduceLT, Nat.reduceLeDiff, Nat.reduceEqDiff, if_true, if_false, List.map_cons, List.map_nil, Option.map_some, reduceIte, Option.bind_some, Option.bind_none, List.append_nil, List.nil_append, List.cons_append, beq_self_eq_true, c3, s3, s4, if_pos hw]
  · by_cases k1 : kind = 1
    · subst k1
      have sd : srcD n m reg 1 num = .c (num % m) := rfl
      simp only [VT, oS, List.getElem?_cons_zero, List.getElem?_cons_succ, List.set_cons_succ, List.set_cons_zero, List.length_cons, List.length_nil, Nat.reduceAdd, Nat.reduceLT, Nat.reduceLeDiff, Nat.reduceEqDiff, if_true, if_false, List.map_cons, List.map_nil, Option.map_some, reduceIte, Option.bind_some, Option.bind_none, List.append_nil, List.nil_append, List.cons_append, beq_self_eq_true, c1, c2', s1, s2, s3, s4, c3, c4, sd, Src.str, if_pos hw, decide_true, decide_false]
      simp (config := {decide := true}) only [VT, oS, List.getElem?_cons_zero, List.getElem?_cons_succ, List.set_cons_succ, List.set_cons_zero, List.length_cons, List.length_nil, Nat.reduceAdd, Nat.reduceLT, Nat.reduceLeDiff, Nat.reduceEqDiff, if_true, if_false, List.map_cons, List.map_nil, Option.map_some, reduceIte, Option.bind_some, Option.bind_none, List.append_nil, List.nil_append, List.cons_append, beq_self_eq_true, c3, c4, s5, if_pos hw]
    · have sd : srcD n m reg kind num = .r ((reg + 1 + num % 7) % 8) := by simp [srcD, k0, k1]
      have z0 : ¬ (kind : Int) = 0 := by omega
      have z1 : ¬ (kind : Int) = 1 := by omega
      simp only [VT, oS, List.getElem?_cons_zero, List.getElem?_cons_succ, List.set_cons_succ, List.set_cons_zero, List.length_cons, List.length_nil, Nat.reduceAdd, Nat.reduceLT, Nat.reduceLeDiff, Nat.reduceEqDiff, if_true, if_false, List.map_cons, List.map_nil, Option.map_some, reduceIte, Option.bind_some, Option.bind_none, List.append_nil, List.nil_append, List.cons_append, beq_self_eq_true, c1, c2', s1, s2, s3, s4, c3, c4, sd, Src.str, if_pos hw, decide_eq_false z0, decide_eq_false z1]
theorem flat_row {α : Type} (row : List α) : ∀ (most j i : Nat), j < most → i < row.length → ((List.replicate most row).flatten)[row.length * j + i]? = row[i]?
  | 0, _, _, h, _ => absurd h (Nat.not_lt_zero _)
  | most + 1, 0, i, _, hi => by
    rw [List.replicate_succ, List.flatten_cons, Nat.mul_zero, Nat.zero_add, List.getElem?_append_left hi]
  | most + 1, j + 1, i, h, hi => by
    rw [List.replicate_succ, List.flatten_cons, List.getElem?_append_right (by rw [Nat.mul_succ]; omega), show row.length * (j + 1) + i - row.length = row.length * j + i by rw [Nat.mul_succ]; omega]
    exact flat_row row most j i (by omega) hi
theorem flat_len {α : Type} (row : List α) : ∀ n : Nat, ((List.replicate n row).flatten).length = n * row.length
  | 0 => by simp
  | n + 1 => by rw [List.replicate_succ, List.flatten_cons, List.length_append, flat_len row n, Nat.add_mul]; omega
theorem flat_map {α β : Type} (f : α → β) (row : List α) : ∀ n : Nat, (List.replicate n (row.map f)).flatten = ((List.replicate n row).flatten).map f
  | 0 => rfl
  | n + 1 => by rw [List.replicate_succ, List.flatten_cons, flat_map f row n, List.replicate_succ, List.flatten_cons, List.map_append]
def rowR : List Nat := [8, 2, 3, 3, 13, 3, 13]
def szR (most : Nat) : List Nat := [most] ++ (List.replicate most rowR).flatten
theorem szR_len (most : Nat) : (szR most).length = 1 + most * 7 := by
  rw [szR, List.length_append, flat_len]; rfl
theorem szR_row (most j i : Nat) (hj : j < most) (hi : i < 7) : (szR most)[1 + 7 * j + i]? = rowR[i]? := by
  rw [szR, List.getElem?_append_right (by simp; omega), show 1 + 7 * j + i - [most].length = rowR.length * j + i by simp [rowR]; omega]
  exact flat_row rowR most j i hj hi
theorem szR_ok (most : Nat) (h : 0 < most) (h2 : most < 1000000) : ∀ s ∈ szR most, 0 < s ∧ s < 1000000 := by
  intro s hs
  rw [szR, List.mem_append] at hs
  rcases hs with hs | hs
  · rw [List.mem_singleton.mp hs]; omega
  · obtain ⟨l, hl, h3⟩ := List.mem_flatten.mp hs
    rw [List.eq_of_mem_replicate hl] at h3
    simp [rowR] at h3
    omega
def insR (m n r0 r1 r2 r3 r4 r5 r6 : Nat) : Ins := ⟨r0, decide (r1 = 1), opN r2, srcD n m r0 r3 r4, srcD n m r0 r5 r6⟩
theorem code_step (e0 e1 e3 : Option RV) (m n : Nat) (st out : PyData) (hm : 0 < m) (hm2 : m ≤ 1000) (hn : 0 < n) (hn2 : n ≤ 10) (nd : List Nat) (cs : List Ins) (most j : Nat) (hl : nd.length = (szR most).length) (hj : j < most) (hm3 : most ≤ 100) (hc : cs.length ≤ 1000)
    (hb : ∀ (i s : Nat), (szR most)[i]? = some s → ∃ d, nd[i]? = some d ∧ d < s) (e7 e8 e9 e10 e11 : Option RV) :
    ∃ (i : Ins) (e7' e8' e9' e10' e11' : Option RV), i.good n m ∧ L1__law_random [e0, e1, some (.d (progD m n st out)), e3, some (.ol (cs.map Ins.d)), some (.ol (nd.map natI)), some (.d (.int j)), e7, e8, e9, e10, e11]
     = .nx [e0, e1, some (.d (progD m n st out)), e3, some (.ol ((cs ++ [i]).map Ins.d)), some (.ol (nd.map natI)), some (.d (.int j)), e7', e8', e9', e10', e11'] := by
  rw [szR_len] at hl
  have hR := fun i hi => hb _ _ (show (szR most)[1 + 7 * j + i]? = some (rowR[i]'(hi)) by rw [szR_row most j i hj hi]; simp)
  obtain ⟨r0, q0, b0⟩ := hR 0 (by decide)
  obtain ⟨r1, q1, b1⟩ := hR 1 (by decide)
  obtain ⟨r2, q2, b2⟩ := hR 2 (by decide)
  obtain ⟨r3, q3, b3⟩ := hR 3 (by decide)
  obtain ⟨r4, q4, b4⟩ := hR 4 (by decide)
  obtain ⟨r5, q5, b5⟩ := hR 5 (by decide)
  obtain ⟨r6, q6, b6⟩ := hR 6 (by decide)
  have b0 : r0 < 8 := b0
  rw [Nat.add_zero] at q0
  have hrow : gSl (.bl (nd.map natI)) (some (1 + 7 * (j : Int))) (some (8 + 7 * (j : Int))) = .ok (.ol [.int r0, .int r1, .int r2, .int r3, .int r4, .int r5, .int r6]) := by
    have := cut_rowN nd (1 + 7 * j) (8 + 7 * j) (by omega) (by omega)
    rw [show 8 + 7 * j - (1 + 7 * j) = 7 by omega, take7 q0 q1 q2 q3 q4 q5 q6] at this
    simpa [natI] using this
  have mulOk : (7 : Int).natAbs < 18446744073709551616 ∨ ((j : Int)).natAbs < 18446744073709551616 := .inl (by decide)
  have g : (insR m n r0 r1 r2 r3 r4 r5 r6).good n m := ⟨b0, srcD_good hn hm b0, srcD_good hn hm b0⟩
  have hop := ops_ix r2 b2
  have hsg := sgn_ix r1 b1
  have w1 := fun e11 => word_step e0 e1 e3 (some (.ol (cs.map Ins.d))) (some (.ol (nd.map natI))) (some (.d (.int j))) e11 m n st out hm hm2 hn hn2 [.int r1, .int r2, .int r3, .int r4, .int r5, .int r6] [] r0 r3 r4 b0 (by simp)
  have w2 := fun e11 => word_step e0 e1 e3 (some (.ol (cs.map Ins.d))) (some (.ol (nd.map natI))) (some (.d (.int j))) e11 m n st out hm hm2 hn hn2 [.int r1, .int r2, .int r3, .int r4, .int r5, .int r6] [.str (srcD n m r0 r3 r4).str] r0 r5 r6 b0 (by simp)
  have hz : cs.length ≤ 1000000 := by omega
  have lp : ∀ e9 e10 e11 : Option RV, loopF (.tp [9, 10]) L0__law_random [.tuple [.int r3, .int r4], .tuple [.int r5, .int r6]] [e0, e1, some (.d (progD m n st out)), e3, some (.ol (cs.map Ins.d)), some (.ol (nd.map natI)), some (.d (.int j)), some (.ol [.int r0, .int r1, .int r2, .int r3, .int r4, .int r5, .int r6]), some (.ol []), e9, e10, e11]
      = .nx [e0, e1, some (.d (progD m n st out)), e3, some (.ol (cs.map Ins.d)), some (.ol (nd.map natI)), some (.d (.int j)), some (.ol [.int r0, .int r1, .int r2, .int r3, .int r4, .int r5, .int r6]), some (.ol [.str (srcD n m r0 r3 r4).str, .str (srcD n m r0 r5 r6).str]), some (.d (.int r5)), some (.d (.int r6)), some (.d (.str (srcD n m r0 r5 r6).str))] := by
    intro e9 e10 e11
    simp only [loopF_cons, VT, oS, List.getElem?_cons_zero, List.getElem?_cons_succ, List.set_cons_succ, List.set_cons_zero, List.length_cons, List.length_nil, Nat.reduceAdd, Nat.reduceLT, Nat.reduceLeDiff, Nat.reduceEqDiff, if_true, if_false, List.map_cons, List.map_nil, Option.map_some, reduceIte, Option.bind_some, Option.bind_none, List.append_nil, List.nil_append, List.cons_append, beq_self_eq_true, w1, w2, lp_nx, loopF_nil, List.nil_append, List.cons_append]
  have hneg : (if decide (r1 = 1) = true then ("-" : Str) else "+") = (insR m n r0 r1 r2 r3 r4 r5 r6).sgn := rfl
  refine ⟨insR m n r0 r1 r2 r3 r4 r5 r6, ?_⟩
  generalize hX : L1__law_random _ = X
  unfold L1__law_random at hX
  simp only [VT, oS, List.getElem?_cons_zero, List.getElem?_cons_succ, List.set_cons_succ, List.set_cons_zero, List.length_cons, List.length_nil, Nat.reduceAdd, Nat.reduceLT, Nat.reduceLeDiff, Nat.reduceEqDiff, if_true, if_false, List.map_cons, List.map_nil, Option.map_some, reduceIte, Option.bind_some, Option.bind_none, List.append_nil, List.nil_append, List.cons_append, beq_self_eq_true, if_pos mulOk, hrow, lp, hop, hsg, List.length_map, if_pos hz] at hX
  subst hX
  rw [List.map_append]
  exact ⟨_, _, _, _, _, g, rfl⟩
theorem random_ok (ns : List Int) (k most m n : Nat) (st out : PyData) (h1 : 1 ≤ most) (h2 : most ≤ 100) (hm : 0 < m) (hm2 : m ≤ 1000) (hn : 0 < n) (hn2 : n ≤ 10) : ∃ cs : List Ins,
    F__law_random [.sc ns, .d (.int k), .d (progD m n st out), .d (.int most)] = .ok (.ol (cs.map Ins.d)) ∧ (∀ i ∈ cs, i.good n m) ∧ cs.length < most := by
  obtain ⟨nd, e1, hl, hb⟩ := draw_nat ns k (szR most) (szR_ok most h1 (by omega)) (by rw [szR_len]; omega)
  obtain ⟨d0, q0, b0⟩ := hb 0 most rfl
  have a0 : atI (nd.map natI) 0 = some (.int d0) := atI_nats (i := 0) q0
  have hr := e_R1n (n := d0) (by omega)
  rw [rng_nat] at hr
  have r7 : gRep (.ol [PyData.int 8, .int 2, .int 3, .int 3, .int 13, .int 3, .int 13]) (.d (.int most)) = .ok (.ol (((List.replicate most rowR).flatten).map natI)) := by
    rw [e_rep rfl (by omega) (by simp; omega), Int.toNat_natCast, ← flat_map]; rfl
  have t0 : gAdd (RV.ol [.int most]) (.ol (((List.replicate most rowR).flatten).map natI)) = .ok (.ol ((szR most).map natI)) := by
    rw [e_addL1, if_pos (by rw [List.length_map, flat_len]; simp [rowR]; omega), szR, List.map_append]; rfl
  obtain ⟨env', e2, cs, e6, e7, e8, e9, e10, e11, rfl, g, hc⟩ := loopF_ex (tg := .nm 6) (f := L1__law_random) (fun i env => ∃ (cs : List Ins) (e6 e7 e8 e9 e10 e11 : Option RV), env = [some (.sc ns), some (.d (.int k)), some (.d (progD m n st out)), some (.d (.int most)), some (.ol (cs.map Ins.d)), some (.ol (nd.map natI)), e6, e7, e8, e9, e10, e11] ∧ (∀ i ∈ cs, i.good n m) ∧ cs.length = i) natI (List.range d0)
    [some (.sc ns), some (.d (.int k)), some (.d (progD m n st out)), some (.d (.int most)), some (.ol []), some (.ol (nd.map natI)), none, none, none, none, none, none] (by
      rintro i env x hx ⟨cs, e6, e7, e8, e9, e10, e11, rfl, g, hc⟩
      have hi : i < d0 := by simpa using (List.getElem?_eq_some_iff.mp hx).1
      have ex : x = i := by rw [List.getElem?_range hi] at hx; exact (Option.some.inj hx).symm
      subst ex
      obtain ⟨i, e7', e8', e9', e10', e11', gi, e3⟩ := code_step (some (.sc ns)) (some (.d (.int k))) (some (.d (.int most))) m n st out hm hm2 hn hn2 nd cs most x hl (by omega) h2 (by omega) hb e7 e8 e9 e10 e11
      refine ⟨_, rfl, _, .inl e3, cs ++ [i], _, _, _, _, _, _, rfl, fun y hy => ?_, by simp [hc]⟩
      rcases List.mem_append.mp hy with z | z
      · exact g y z
      · rw [List.mem_singleton.mp z]; exact gi) ⟨[], none, none, none, none, none, none, rfl, by simp, rfl⟩
  rw [List.length_range] at hc
  refine ⟨cs, ?_, g, by omega⟩
  show (sSeq _ _ [some (.sc ns), some (.d (.int k)), some (.d (progD m n st out)), some (.d (.int most)), none, none, none, none, none, none, none, none]).fin = _
  simp only [VT, oS, List.getElem?_cons_zero, List.getElem?_cons_succ, List.set_cons_succ, List.set_cons_zero, List.length_cons, List.length_nil, Nat.reduceAdd, Nat.reduceLT, Nat.reduceLeDiff, Nat.reduceEqDiff, if_true, if_false, List.map_cons, List.map_nil, Option.map_some, reduceIte, Option.bind_some, Option.bind_none, List.append_nil, List.nil_append, List.cons_append, beq_self_eq_true, r7, t0, e1, a0, hr, e2]
theorem regs_draw (ns : List Int) (k c m : Nat) (hm : 0 < m) (hm2 : m ≤ 1000) (hc : c ≤ 100) : ∃ xs : List Int, F__law_draw [.sc ns, .d (.int k), .d (.list ((List.replicate c m).map natI))] = .ok (.ol (xs.map .int)) ∧ xs.length = c ∧ Regs m xs := by
  obtain ⟨nd, e1, hl, hb⟩ := draw_nat ns k (List.replicate c m) (fun s hs => by rw [List.eq_of_mem_replicate hs]; omega) (by simp; omega)
  rw [List.length_replicate] at hl
  refine ⟨nd.map fun n : Nat => (n : Int), by rw [e1, List.map_map]; rfl, by simpa using hl, ⟨fun x hx => ?_⟩⟩
  obtain ⟨d, hd, rfl⟩ := List.mem_map.mp hx
  obtain ⟨i, hi, rfl⟩ := List.getElem_of_mem hd
  obtain ⟨d, q, b⟩ := hb i m (by rw [List.getElem?_replicate, if_pos (by omega)])
  rw [List.getElem?_eq_getElem hi] at q
  cases q
  omega
theorem rep_ok (c m : Nat) (hc : c ≤ 100) : gRep (.ol [.int (m : Int)]) (.d (.int c)) = .ok (.ol ((List.replicate c m).map natI)) := by
  rw [e_rep rfl (by omega) (by simp; omega), Int.toNat_natCast, ← rep_one]; rfl
theorem inputs_ok (ns : List Int) (k m n : Nat) (st out : PyData) (hm : 0 < m) (hm2 : m ≤ 1000) (hn2 : n ≤ 10) : ∃ xs : List Int,
    F__law_inputs [.sc ns, .d (.int k), .d (progD m n st out)] = .ok (.ol (xs.map .int)) ∧ xs.length = n ∧ Regs m xs := by
  obtain ⟨xs, e1, h1, h2⟩ := regs_draw ns k n m hm hm2 (by omega)
  have hr := rep_ok n m (by omega)
  refine ⟨xs, ?_, h1, h2⟩
  show (sSeq _ _ [some (.sc ns), some (.d (.int k)), some (.d (progD m n st out)), none]).fin = _
  simp only [VT, oS, List.getElem?_cons_zero, List.getElem?_cons_succ, List.set_cons_succ, List.set_cons_zero, List.length_cons, List.length_nil, Nat.reduceAdd, Nat.reduceLT, Nat.reduceLeDiff, Nat.reduceEqDiff, if_true, if_false, List.map_cons, List.map_nil, Option.map_some, reduceIte, Option.bind_some, Option.bind_none, List.append_nil, List.nil_append, List.cons_append, beq_self_eq_true, progD, hr, e1]
theorem turns2 (ns : List Int) (h : ns.length ≤ 63) (a b : Int) (hb : 0 < b) (hb2 : b < 1000) (ha0 : 1 ≤ a) (ha : a ≤ 1000) (env : VEnv) (h0 : env[0]? = some (some (.sc ns))) : ∃ m : Nat, (m : Int) ≤ a ∧ (iR gR1 (aC (cA gMin2 (aC (cC (.int a)) (aC (cA gMax2 (aC (cC (.int 1)) (aC (c2 gDiv (cA gLen (aC (cV 0) aN)) (cC (.int b))) aN))) aN))) aN)) env = .ok ((List.range m).map natI) := by
  have hd : 0 ≤ (ns.length : Int) / b := Int.ediv_nonneg (by omega) (by omega)
  obtain ⟨p, hp⟩ : ∃ p, p = (if (ns.length : Int) / b > 1 then (ns.length : Int) / b else 1) := ⟨_, rfl⟩
  have hp1 : 1 ≤ p := by rw [hp]; split <;> omega
  obtain ⟨q, hq⟩ : ∃ q, q = (if p < a then p else a) := ⟨_, rfl⟩
  have hm : q.natAbs ≤ 1000000 ∧ 0 ≤ q ∧ q ≤ a := by rw [hq]; split <;> omega
  refine ⟨q.toNat, by omega, ?_⟩
  have := e_R1 hm.1
  rw [rng_nat] at this
  have hbb : 0 < b ∧ b.natAbs < 1073741824 := by omega
  simp only [e_iR, e_aC, e_cA, e_aN, e_c2, e_V, h0, Rs.bind_ok, e_cC, e_bor4, e_lenSc, e_div, if_pos hbb, e_max2, e_min2, ← hp, ← hq, this]
theorem ints_nice (xs : List Int) : Nice 1 (.list (xs.map .int)) := Nice.lst fun d hd => by
  obtain ⟨i, _, rfl⟩ := List.mem_map.mp hd
  exact Nice.int 0 _
theorem Nice.up {k l : Nat} {d : PyData} (h : Nice k d) (hl : k ≤ l) : Nice l d := ⟨h.1, Nat.le_trans h.2 hl⟩
theorem cut_take (xs : List PyData) (n : Nat) : cutL xs none (some (n : Int)) = xs.take n := by
  unfold cutL
  rw [HT.sIx_nat]
  have : HT.sIx xs.length 0 none = 0 := rfl
  rw [this, List.drop_zero, Nat.sub_zero]
  by_cases h : n ≤ xs.length
  · rw [Nat.min_eq_left h]
  · rw [Nat.min_eq_right (by omega), List.take_of_length_le (Nat.le_refl _), List.take_of_length_le (by omega)]
def z8 : List Int := List.replicate 8 0
def rwD (r : List Int) : PyData := .list (r.map .int)
def stsM (m : Int) (ins : List Int) (cs : List Ins) (j : Nat) : List (List Int) := (List.range (j + 1)).map fun n => runM m ins (cs.take n) z8
theorem runM_snoc (m : Int) (ins : List Int) (cs : List Ins) (i : Ins) (r : List Int) : runM m ins (cs ++ [i]) r = i.do m ins (runM m ins cs r) := by
  unfold runM
  rw [List.foldl_append]
  rfl
theorem runM_regs {m : Int} (hm : 0 < m) (ins : List Int) : ∀ (cs : List Ins) {r : List Int}, Regs m r → r.length = 8 → Regs m (runM m ins cs r) ∧ (runM m ins cs r).length = 8
  | [], _, h, hl => ⟨h, hl⟩
  | i :: cs, r, h, hl => runM_regs hm ins cs (r := i.do m ins r) (Ins.do_regs hm h i) (by rw [Ins.do_len]; exact hl)
theorem z8_regs {m : Int} (hm : 0 < m) : Regs m z8 ∧ z8.length = 8 := ⟨⟨fun x hx => by
  have := List.eq_of_mem_replicate hx
  omega⟩, rfl⟩
theorem stsM_last (m : Int) (ins : List Int) (cs : List Ins) (j : Nat) : atI ((stsM m ins cs j).map rwD) (-1) = some (rwD (runM m ins (cs.take j) z8)) := by
  unfold stsM
  rw [List.range_succ, List.map_append, List.map_append]
  exact atI_last _ _
theorem stsM_succ (m : Int) (ins : List Int) (cs : List Ins) (j : Nat) (i : Ins) (h : cs[j]? = some i) : (stsM m ins cs (j + 1)).map rwD = (stsM m ins cs j).map rwD ++ [.list ((i.do m ins (runM m ins (cs.take j) z8)).map .int)] := by
  have e : cs.take (j + 1) = cs.take j ++ [i] := by
    rw [List.take_add_one, h]
    rfl
  unfold stsM
  rw [List.range_succ, List.map_append, List.map_append, List.map_cons, List.map_nil, List.map_cons, List.map_nil, e, runM_snoc]
  rfl
section
variable {m n : Nat} {st out : PyData}
theorem trace_step (hm : 0 < m) (hm2 : m ≤ 1000) (cs : List Ins) (hc : ∀ i ∈ cs, i.ok n) {ins : List Int} (hi : ins.length = n) (h1 : Regs m ins) (h8 : cs.length ≤ 1000) (j : Nat) (i : Ins) (hx : cs[j]? = some i) :
    L0_traced [some (.d (progD m n st out)), some (.d (.list (cs.map Ins.d))), some (.d (.list (ins.map .int))), some (.ol ((stsM m ins cs j).map rwD)), some (.d i.d)] = .nx [some (.d (progD m n st out)), some (.d (.list (cs.map Ins.d))), some (.d (.list (ins.map .int))), some (.ol ((stsM m ins cs (j + 1)).map rwD)), some (.d i.d)] ∧
    (sAppO 3 (cA (fun rs => if rs.length = 4 then F_performed (rs.map RV.arg) else .no) (aC (cV 0) (aC (cV 4) (aC (cV 2) (aC (c2 gIx (cV 3) (c1 gNeg (cC (.int 1)))) aN)))))) [some (.d (progD m n st out)), some (.d (.list (cs.map Ins.d))), some (.d (.list (ins.map .int))), some (.ol ((stsM m ins cs j).map rwD)), some (.d i.d)] = .nx [some (.d (progD m n st out)), some (.d (.list (cs.map Ins.d))), some (.d (.list (ins.map .int))), some (.ol ((stsM m ins cs (j + 1)).map rwD)), some (.d i.d)] := by
  have hj := (List.getElem?_eq_some_iff.mp hx).1
  obtain ⟨g1, g2⟩ := runM_regs (m := (m : Int)) (by omega) ins (cs.take j) (z8_regs (m := (m : Int)) (by omega)).1 rfl
  have hp := performed_ok (m := (m : Int)) (n := (n : Int)) (st := st) (out := out) (by omega) (by omega) i (hc i (List.mem_of_getElem? hx)) (a := .d (.list (ins.map .int))) (b := .d (.list ((runM m ins (cs.take j) z8).map .int))) (.inl rfl) (.inl rfl) hi g2 h1 g1
  have hl := stsM_last m ins cs j
  have hlen : ((stsM m ins cs j).map rwD).length ≤ 1000000 := by unfold stsM; rw [List.length_map, List.length_map, List.length_range]; omega
  rw [stsM_succ m ins cs j i hx]
  have hl : atI ((stsM m ins cs j).map rwD) (-1) = some (.list ((runM m ins (cs.take j) z8).map .int)) := hl
  generalize (stsM m ins cs j).map rwD = SS at *
  generalize progD (m : Int) (n : Int) st out = PP at *
  generalize cs.map Ins.d = CD at *
  generalize ins.map PyData.int = XD at *
  generalize (runM m ins (cs.take j) z8).map PyData.int = RD at *
  generalize (i.do m ins (runM m ins (cs.take j) z8)).map PyData.int = DD at *
  generalize i.d = ID at *
  constructor
  · unfold L0_traced
    simp only [VT, oS, List.getElem?_cons_zero, List.getElem?_cons_succ, List.set_cons_succ, List.set_cons_zero, List.length_cons, List.length_nil, Nat.reduceAdd, Nat.reduceLT, Nat.reduceLeDiff, Nat.reduceEqDiff, if_true, if_false, List.map_cons, List.map_nil, Option.map_some, reduceIte, Option.bind_some, Option.bind_none, List.append_nil, List.nil_append, List.cons_append, beq_self_eq_true, e_app, hl, hp, if_pos hlen]
  · have e : (cA (fun rs => if rs.length = 4 then F_performed (rs.map RV.arg) else .no) (aC (cV 0) (aC (cV 4) (aC (cV 2) (aC (c2 gIx (cV 3) (c1 gNeg (cC (.int 1)))) aN))))) [some (.d PP), some (.d (.list CD)), some (.d (.list XD)), some (.ol SS), some (.d ID)] = .ok (.ol DD) := by
      simp only [VT, oS, List.getElem?_cons_zero, List.getElem?_cons_succ, List.set_cons_succ, List.set_cons_zero, List.length_cons, List.length_nil, Nat.reduceAdd, Nat.reduceLT, Nat.reduceLeDiff, Nat.reduceEqDiff, if_true, if_false, List.map_cons, List.map_nil, Option.map_some, reduceIte, Option.bind_some, Option.bind_none, List.append_nil, List.nil_append, List.cons_append, beq_self_eq_true, hl, hp]
    unfold sAppO
    rw [e]
    simp only [List.getElem?_cons_succ, List.getElem?_cons_zero, if_pos hlen, List.set_cons_succ, List.set_cons_zero]
theorem traced_ok (hm : 0 < m) (hm2 : m ≤ 1000) (cs : List Ins) (hc : ∀ i ∈ cs, i.ok n) {ins : List Int} (hi : ins.length = n) (h1 : Regs m ins) (h8 : cs.length ≤ 1000) :
    F_traced [.d (progD m n st out), .d (.list (cs.map Ins.d)), .d (.list (ins.map .int))] = .ok (.ol ((stsM m ins cs cs.length).map rwD)) ∧ F_tracedR [.d (progD m n st out), .d (.list (cs.map Ins.d)), .d (.list (ins.map .int))] = .ok (.ol ((stsM m ins cs cs.length).map rwD)) := by
  have step := trace_step (st := st) (out := out) hm hm2 cs hc hi h1 h8
  have lp : ∀ (f : VEnv → Out), (∀ j i, cs[j]? = some i → f [some (.d (progD m n st out)), some (.d (.list (cs.map Ins.d))), some (.d (.list (ins.map .int))), some (.ol ((stsM m ins cs j).map rwD)), some (.d i.d)] = .nx [some (.d (progD m n st out)), some (.d (.list (cs.map Ins.d))), some (.d (.list (ins.map .int))), some (.ol ((stsM m ins cs (j + 1)).map rwD)), some (.d i.d)]) →
      ∃ e4, loopF (.nm 4) f (cs.map Ins.d) [some (.d (progD m n st out)), some (.d (.list (cs.map Ins.d))), some (.d (.list (ins.map .int))), some (.ol [rwD z8]), none] = .nx [some (.d (progD m n st out)), some (.d (.list (cs.map Ins.d))), some (.d (.list (ins.map .int))), some (.ol ((stsM m ins cs cs.length).map rwD)), e4] := fun f hf => by
    obtain ⟨env', q1, e4, rfl⟩ := loopF_ex (tg := .nm 4) (f := f) (fun j env => ∃ e4, env = [some (.d (progD m n st out)), some (.d (.list (cs.map Ins.d))), some (.d (.list (ins.map .int))), some (.ol ((stsM m ins cs j).map rwD)), e4]) Ins.d cs [some (.d (progD m n st out)), some (.d (.list (cs.map Ins.d))), some (.d (.list (ins.map .int))), some (.ol [rwD z8]), none] (by
      rintro j env i hx ⟨e4, rfl⟩
      exact ⟨[some (.d (progD m n st out)), some (.d (.list (cs.map Ins.d))), some (.d (.list (ins.map .int))), some (.ol ((stsM m ins cs j).map rwD)), some (.d i.d)], rfl, _, .inl (hf j i hx), _, rfl⟩) ⟨_, rfl⟩
    exact ⟨e4, q1⟩
  have rep : ∀ env, (c2 gRep (cA gList (aC (cC (.int 0)) aN)) (cC (.int 8))) env = .ok (.ol (z8.map .int)) := fun _ => rfl
  constructor
  · obtain ⟨e4, q⟩ := lp L0_traced fun j i h => (step j i h).1
    have hz : rwD z8 = .list (z8.map .int) := rfl
    rw [hz] at q
    show (B_traced [some (.d (progD m n st out)), some (.d (.list (cs.map Ins.d))), some (.d (.list (ins.map .int))), none, none]).fin = _
    generalize (stsM m ins cs cs.length).map rwD = SS at *
    generalize progD (m : Int) (n : Int) st out = PP at *
    generalize cs.map Ins.d = CD at *
    generalize ins.map PyData.int = XD at *
    generalize z8.map PyData.int = Z at *
    unfold B_traced
    generalize c2 gRep (cA gList (aC (cC (.int 0)) aN)) (cC (.int 8)) = ZZ at *
    simp only [VT, oS, List.getElem?_cons_zero, List.getElem?_cons_succ, List.set_cons_succ, List.set_cons_zero, List.length_cons, List.length_nil, Nat.reduceAdd, Nat.reduceLT, Nat.reduceLeDiff, Nat.reduceEqDiff, if_true, if_false, List.map_cons, List.map_nil, Option.map_some, reduceIte, Option.bind_some, Option.bind_none, List.append_nil, List.nil_append, List.cons_append, beq_self_eq_true, rep, e_iA, q, e_retV]
  · obtain ⟨e4, q⟩ := lp _ fun j i h => (step j i h).2
    have s1 : (sSetR 3 (c2 gRep (cA gList (aC (cC (.int 0)) aN)) (cC (.int 8)))) [some (.d (progD m n st out)), some (.d (.list (cs.map Ins.d))), some (.d (.list (ins.map .int))), none, none] = .nx [some (.d (progD m n st out)), some (.d (.list (cs.map Ins.d))), some (.d (.list (ins.map .int))), some (.ol [rwD z8]), none] := by
      unfold sSetR
      rw [rep]
      rfl
    show (B_tracedR [some (.d (progD m n st out)), some (.d (.list (cs.map Ins.d))), some (.d (.list (ins.map .int))), none, none]).fin = _
    unfold B_tracedR
    generalize (stsM m ins cs cs.length).map rwD = SS at *
    generalize progD (m : Int) (n : Int) st out = PP at *
    generalize cs.map Ins.d = CD at *
    generalize ins.map PyData.int = XD at *
    rw [sSeqN, s1]
    simp only
    rw [sSeqN, e_for]
    have hi : (iA (cV 1)) [some (.d PP), some (.d (.list CD)), some (.d (.list XD)), some (.ol [rwD z8]), none] = .ok CD := rfl
    rw [hi, Rs.out_ok, q]
    rfl
end
theorem rows_nice (R : List (List Int)) : Nice 2 (.list (R.map rwD)) := Nice.lst fun d hd => by
  obtain ⟨r, _, rfl⟩ := List.mem_map.mp hd
  exact ints_nice r
theorem rows_rowD (R : List (List Int)) : (R.map rwD).all rowD = true := List.all_eq_true.mpr fun d hd => by
  obtain ⟨r, _, rfl⟩ := List.mem_map.mp hd
  show (intsD (r.map .int)).isSome = true
  rw [intsD_map]
  rfl
theorem law_holds (ns : List Int) (h : ns.length ≤ 63) : F_law [.sc ns] = .ok (.d (.bool true)) := by
  obtain ⟨tm, hm, hr⟩ := turns2 ns h 12 4 (by omega) (by omega) (by omega) (by omega) [some (.sc ns), none, none, none, none, none, none, none] rfl
  obtain ⟨env', e1, j1, j2, j3, j4, j5, j6, rfl⟩ := loopF_ex (tg := .nm 1) (f := L0_law) (fun i env => ∃ j1 j2 j3 j4 j5 j6, env = [some (.sc ns), j1, j2, j3, j4, j5, j6, none]) natI (List.range tm) [some (.sc ns), none, none, none, none, none, none, none] (by
    rintro i env x hx ⟨j1, j2, j3, j4, j5, j6, rfl⟩
    obtain ⟨rfl, hi⟩ := range_at hx
    refine ⟨[some (.sc ns), some (.d (.int (x : Int))), j2, j3, j4, j5, j6, none], rfl, ?_⟩
    have mulOk : (4 : Int).natAbs < 18446744073709551616 ∨ ((x : Nat) : Int).natAbs < 18446744073709551616 := .inl (by decide)
    obtain ⟨m, n, ss, os, p1, m1, m2, n1, n2, _, _, _, _⟩ := program_ok ns (4 * x) 4 (by omega) (by omega)
    obtain ⟨cs, p2, g, hc⟩ := random_ok ns (4 * x + 1) 8 m n (.tuple (ss.map Stp.d)) (.tuple (os.map natI)) (by omega) (by omega) (by omega) (by omega) (by omega) (by omega)
    obtain ⟨ins, p3, i1, i2⟩ := inputs_ok ns (4 * x + 2) m n (.tuple (ss.map Stp.d)) (.tuple (os.map natI)) (by omega) (by omega) (by omega)
    have k0 : ((4 * x : Nat) : Int) = 4 * (x : Int) := by omega
    have k1 : ((4 * x + 1 : Nat) : Int) = 4 * (x : Int) + 1 := by omega
    have k2 : ((4 * x + 2 : Nat) : Int) = 4 * (x : Int) + 2 := by omega
    rw [k0] at p1
    rw [k1] at p2
    rw [k2] at p3
    simp only [Int.cast_ofNat_Int] at p1 p2
    have hg : ∀ i ∈ cs, i.ok n := fun i hi => (g i hi).ok (by omega) (by omega)
    obtain ⟨pt, pr⟩ := traced_ok (m := m) (n := n) (st := .tuple (ss.map Stp.d)) (out := .tuple (os.map natI)) (by omega) (by omega) cs hg i1 i2 (by omega)
    obtain ⟨z1, z2⟩ := z8_regs (m := (m : Int)) (by omega)
    have hdue : ∀ e1 e5 e6, lcF (.nm 7) bYes (cA (fun rs => if rs.length = 4 then F__law_after (rs.map RV.arg) else .no) (aC (cV 2) (aC (cSl (cV 3) oN (oS (cV 7))) (aC (cV 4) (aC (c2 gRep (cA gList (aC (cC (.int 0)) aN)) (cC (.int 8))) aN))))) [some (.sc ns), e1, some (.d (progD m n (.tuple (ss.map Stp.d)) (.tuple (os.map natI)))), some (.ol (cs.map Ins.d)), some (.d (.list (ins.map .int))), e5, e6, none] ((List.range (cs.length + 1)).map natI) = .ok ((stsM m ins cs cs.length).map rwD) := fun e1 e5 e6 => by
      refine (lcF_map natI (fun _ => true) (fun k => rwD (runM m ins (cs.take k) z8)) (List.range (cs.length + 1)) fun k hk => ⟨[some (.sc ns), e1, some (.d (progD m n (.tuple (ss.map Stp.d)) (.tuple (os.map natI)))), some (.ol (cs.map Ins.d)), some (.d (.list (ins.map .int))), e5, e6, some (.d (.int (k : Int)))], rfl, rfl, fun _ => ⟨.ol ((runM m ins (cs.take k) z8).map .int), ?_, rfl⟩⟩).trans ?_
      · have pa := after_ok (m := m) (n := n) (st := .tuple (ss.map Stp.d)) (out := .tuple (os.map natI)) (by omega) (by omega) (cs.take k) (fun i hi => hg i (List.mem_of_mem_take hi)) (a := .d (.list (ins.map .int))) (b := .d (.list (z8.map .int))) (.inl rfl) (.inl rfl) i1 z2 i2 z1
        have hsl : gSl (.bl (cs.map Ins.d)) none (some (k : Int)) = .ok (.ol ((cs.take k).map Ins.d)) := by
          show Rs.ok (RV.ol (cutL (cs.map Ins.d) none (some (k : Int)))) = _
          rw [cut_take, List.map_take]
        have rep : ∀ env, (c2 gRep (cA gList (aC (cC (.int 0)) aN)) (cC (.int 8))) env = .ok (.ol (z8.map .int)) := fun _ => rfl
        generalize (runM m ins (cs.take k) z8).map PyData.int = RD at *
        generalize progD m n (.tuple (ss.map Stp.d)) (.tuple (os.map natI)) = PP at *
        generalize (cs.take k).map Ins.d = CK at *
        generalize cs.map Ins.d = CD at *
        generalize ins.map PyData.int = XD at *
        generalize z8.map PyData.int = Z at *
        generalize c2 gRep (cA gList (aC (cC (.int 0)) aN)) (cC (.int 8)) = ZZ at *
        simp only [VT, oS, List.getElem?_cons_zero, List.getElem?_cons_succ, List.set_cons_succ, List.set_cons_zero, List.length_cons, List.length_nil, Nat.reduceAdd, Nat.reduceLT, Nat.reduceLeDiff, Nat.reduceEqDiff, if_true, if_false, List.map_cons, List.map_nil, Option.map_some, reduceIte, Option.bind_some, Option.bind_none, List.append_nil, List.nil_append, List.cons_append, beq_self_eq_true, hsl, rep, pa]
      · rw [List.filter_eq_self.mpr (fun _ _ => rfl)]
        unfold stsM
        rw [List.map_map]
        rfl
    have hrn := e_R1n (n := cs.length + 1) (by omega)
    rw [rng_nat] at hrn
    have hrn : gR1 [.d (.int ((cs.length : Int) + 1))] = .ok ((List.range (cs.length + 1)).map natI) := hrn
    have hlb : gLen [.bl (cs.map Ins.d)] = .ok (.d (.int (cs.length : Int))) := by rw [e_lenB, List.length_map]
    have hz : ((List.range (cs.length + 1)).map natI).length ≤ 1000000 := by rw [List.length_map, List.length_range]; omega
    obtain ⟨rest, hrest⟩ : ∃ rest : List (List Int), (stsM m ins cs cs.length).map rwD = .list (.int 0 :: (List.replicate 7 (0 : Int)).map .int) :: rest.map rwD := by
      refine ⟨(List.range cs.length).map fun k => runM m ins (cs.take (k + 1)) z8, ?_⟩
      unfold stsM
      rw [List.range_succ_eq_map, List.map_cons, List.map_cons, List.map_map, List.map_map, List.map_map, List.take_zero]
      rfl
    have nall := rows_nice (stsM m ins cs cs.length)
    have nrest := rows_nice rest
    have hrd := rows_rowD rest
    rw [hrest] at pt pr hdue nall
    have sall := nall.shaped (by decide)
    have rall := nall.refl
    have srest := nrest.shaped (by decide)
    have rrest := nrest.refl
    have hzs : (intsD ((List.replicate 7 (0 : Int)).map .int)).isSome = true := rfl
    have c1 : ∀ (a : PyData) (l : List PyData), cutL (a :: l) (some 1) none = l := fun a l => by
      unfold cutL
      have h1 : HT.sIx (a :: l).length 0 (some 1) = 1 := by
        rw [show (1 : Int) = ((1 : Nat) : Int) from rfl, HT.sIx_nat]
        simp
      have h2 : HT.sIx (a :: l).length (a :: l).length none = (a :: l).length := rfl
      rw [h1, h2]
      simp
    have slb : ∀ xs : List PyData, gSl (.bl xs) (some 1) none = .ok (.ol (cutL xs (some 1) none)) := fun _ => rfl
    have sld : ∀ xs : List PyData, gSl (.d (.list xs)) (some 1) none = .ok (.ol (cutL xs (some 1) none)) := fun _ => rfl
    generalize (List.range (cs.length + 1)).map natI = RG at *
    generalize rest.map rwD = RT at *
    generalize (List.replicate 7 (0 : Int)).map PyData.int = Z7 at *
    generalize progD m n (.tuple (ss.map Stp.d)) (.tuple (os.map natI)) = PP at *
    generalize cs.map Ins.d = CD at *
    generalize ins.map PyData.int = XD at *
    have told : ∀ e1, sTold 6 (cA (fun rs => if rs.length = 3 then F_tracedR (rs.map RV.arg) else .no) (aC (cV 2) (aC (cV 3) (aC (cV 4) aN)))) (cB (c2 gNe (cV 6) (cV 5))) (c2 gAdd (c2 gIx (c2 gIx (cV 6) (cC (.int 0))) (cC (.int 0))) (cC (.int 1))) [some (.sc ns), e1, some (.d PP), some (.d (.list CD)), some (.d (.list XD)), some (.ol (.list (.int 0 :: Z7) :: RT)), j6, none] = .nx [some (.sc ns), e1, some (.d PP), some (.d (.list CD)), some (.d (.list XD)), some (.ol (.list (.int 0 :: Z7) :: RT)), some (.ol (.list (.int 1 :: Z7) :: RT)), none] := fun e1 => by
      have f1 : (cA (fun rs => if rs.length = 3 then F_tracedR (rs.map RV.arg) else .no) (aC (cV 2) (aC (cV 3) (aC (cV 4) aN)))) [some (.sc ns), e1, some (.d PP), some (.d (.list CD)), some (.d (.list XD)), some (.ol (.list (.int 0 :: Z7) :: RT)), j6, none] = .ok (.ol (.list (.int 0 :: Z7) :: RT)) := by
        simp only [VT, oS, List.getElem?_cons_zero, List.getElem?_cons_succ, List.set_cons_succ, List.set_cons_zero, List.length_cons, List.length_nil, Nat.reduceAdd, Nat.reduceLT, Nat.reduceLeDiff, Nat.reduceEqDiff, if_true, if_false, List.map_cons, List.map_nil, Option.map_some, reduceIte, Option.bind_some, Option.bind_none, List.append_nil, List.nil_append, List.cons_append, beq_self_eq_true, pr]
      have f2 : (cB (c2 gNe (cV 6) (cV 5))) [some (.sc ns), e1, some (.d PP), some (.d (.list CD)), some (.d (.list XD)), some (.ol (.list (.int 0 :: Z7) :: RT)), some (.ol (.list (.int 0 :: Z7) :: RT)), none] = .ok false := by
        simp only [VT, oS, List.getElem?_cons_zero, List.getElem?_cons_succ, List.set_cons_succ, List.set_cons_zero, List.length_cons, List.length_nil, Nat.reduceAdd, Nat.reduceLT, Nat.reduceLeDiff, Nat.reduceEqDiff, if_true, if_false, List.map_cons, List.map_nil, Option.map_some, reduceIte, Option.bind_some, Option.bind_none, List.append_nil, List.nil_append, List.cons_append, beq_self_eq_true, sall, rall]
      have f3 : (c2 gAdd (c2 gIx (c2 gIx (cV 6) (cC (.int 0))) (cC (.int 0))) (cC (.int 1))) [some (.sc ns), e1, some (.d PP), some (.d (.list CD)), some (.d (.list XD)), some (.ol (.list (.int 0 :: Z7) :: RT)), some (.ol (.list (.int 0 :: Z7) :: RT)), none] = .ok (.d (.int 1)) := by
        simp only [VT, oS, List.getElem?_cons_zero, List.getElem?_cons_succ, List.set_cons_succ, List.set_cons_zero, List.length_cons, List.length_nil, Nat.reduceAdd, Nat.reduceLT, Nat.reduceLeDiff, Nat.reduceEqDiff, if_true, if_false, List.map_cons, List.map_nil, Option.map_some, reduceIte, Option.bind_some, Option.bind_none, List.append_nil, List.nil_append, List.cons_append, beq_self_eq_true, Int.zero_add]
      have hcond : ((intsD Z7).isSome && RT.all rowD) = true := by rw [hzs, hrd]; rfl
      unfold sTold
      rw [f1]
      simp only [List.set_cons_succ, List.set_cons_zero]
      rw [if_pos ⟨hcond, by simp⟩, f2, f3]
    generalize hX : L0_law _ = X
    unfold L0_law at hX
    simp only [VT, oS, List.getElem?_cons_zero, List.getElem?_cons_succ, List.set_cons_succ, List.set_cons_zero, List.length_cons, List.length_nil, Nat.reduceAdd, Nat.reduceLT, Nat.reduceLeDiff, Nat.reduceEqDiff, if_true, if_false, List.map_cons, List.map_nil, Option.map_some, reduceIte, Option.bind_some, Option.bind_none, List.append_nil, List.nil_append, List.cons_append, beq_self_eq_true, if_pos mulOk, p1, p2, p3, hlb, hrn, if_pos hz, hdue, told, slb, sld, c1, srest, rrest, pt, sall, rall] at hX
    subst hX
    exact ⟨_, .inl rfl, _, _, _, _, _, _, rfl⟩) ⟨none, none, none, none, none, none, rfl⟩
  show (sSeq _ _ [some (.sc ns), none, none, none, none, none, none, none]).fin = _
  rw [e_seq, e_for, hr, Rs.out_ok, e1]
  simp only [VT, oS, List.getElem?_cons_zero, List.getElem?_cons_succ, List.set_cons_succ, List.set_cons_zero, List.length_cons, List.length_nil, Nat.reduceAdd, Nat.reduceLT, Nat.reduceLeDiff, Nat.reduceEqDiff, if_true, if_false, List.map_cons, List.map_nil, Option.map_some, reduceIte, Option.bind_some, Option.bind_none, List.append_nil, List.nil_append, List.cons_append, beq_self_eq_true]
def topS (i : Nat) : Stmt := PySem.Challenge.pw_tidyback_k48_contents_step_by_step.main.body.getD i (.Pass ⟨0, 0, 0, 0⟩)
structure Txt (K : PySem.W.Frag) (mg : Str → Option Value) (a__law_cell a__law_draw a__law_operand a__law_program a__law_random a__law_inputs a_result_of a_source_value a_performed a_traced a__law_result a__law_value a__law_after a_law : Addr) : Prop where
  g__law_cell : mg "_law_cell" = some (.ref a__law_cell)
  k__law_cell : PySem.W.keepIn K (.ref a__law_cell) = true
  g__law_draw : mg "_law_draw" = some (.ref a__law_draw)
  k__law_draw : PySem.W.keepIn K (.ref a__law_draw) = true
  g__law_operand : mg "_law_operand" = some (.ref a__law_operand)
  k__law_operand : PySem.W.keepIn K (.ref a__law_operand) = true
  g__law_program : mg "_law_program" = some (.ref a__law_program)
  k__law_program : PySem.W.keepIn K (.ref a__law_program) = true
  g__law_random : mg "_law_random" = some (.ref a__law_random)
  k__law_random : PySem.W.keepIn K (.ref a__law_random) = true
  g__law_inputs : mg "_law_inputs" = some (.ref a__law_inputs)
  k__law_inputs : PySem.W.keepIn K (.ref a__law_inputs) = true
  g_result_of : mg "result_of" = some (.ref a_result_of)
  k_result_of : PySem.W.keepIn K (.ref a_result_of) = true
  g_source_value : mg "source_value" = some (.ref a_source_value)
  k_source_value : PySem.W.keepIn K (.ref a_source_value) = true
  g_performed : mg "performed" = some (.ref a_performed)
  k_performed : PySem.W.keepIn K (.ref a_performed) = true
  g_traced : mg "traced" = some (.ref a_traced)
  k_traced : PySem.W.keepIn K (.ref a_traced) = true
  g__law_result : mg "_law_result" = some (.ref a__law_result)
  k__law_result : PySem.W.keepIn K (.ref a__law_result) = true
  g__law_value : mg "_law_value" = some (.ref a__law_value)
  k__law_value : PySem.W.keepIn K (.ref a__law_value) = true
  g__law_after : mg "_law_after" = some (.ref a__law_after)
  k__law_after : PySem.W.keepIn K (.ref a__law_after) = true
  g_law : mg "law" = some (.ref a_law)
  k_law : PySem.W.keepIn K (.ref a_law) = true
  z_int : mg "int" = none
  z_len : mg "len" = none
  z_list : mg "list" = none
  z_max : mg "max" = none
  z_min : mg "min" = none
  z_range : mg "range" = none
  z_str : mg "str" = none
  z_tuple : mg "tuple" = none
  c_REGISTERS : ∃ t, mg "REGISTERS" = some (.int 8 t)
section
variable {P : Program} {w : World} {K : PySem.W.Frag} {mg : Str → Option Value} {base : Heap} {ca : CA} {a__law_cell a__law_draw a__law_operand a__law_program a__law_random a__law_inputs a_result_of a_source_value a_performed a_traced a__law_result a__law_value a__law_after a_law : Addr}
abbrev s__law_cell : Stmt := topS 7
abbrev n__law_cell : List Str := ["_law_script", "_law_k"]
theorem sc__law_cell : FnScope n__law_cell ["_law_script", "_law_k"] (defScope s__law_cell) := ⟨rfl, rfl, rfl, by decide +kernel, rfl, by decide +kernel, by decide +kernel⟩
theorem ok__law_cell (T : Txt K mg a__law_cell a__law_draw a__law_operand a__law_program a__law_random a__law_inputs a_result_of a_source_value a_performed a_traced a__law_result a__law_value a__law_after a_law) {fd : FuncData} (F : Fun K "_law_cell" "_law_cell" s__law_cell a__law_cell fd) : FnOk P w K mg base (L2.CX P w) 1 a__law_cell fd ["_law_script", "_law_k"] (spV K ca 2 F__law_cell) :=
  fn_ok (k := 0) (N := n__law_cell) (body := B__law_cell) F sc__law_cell (fun cdv A outer s H E hr tk hp =>
    (vss_cons (vs_if (vt_cmp op_lt s_lt (vv 1) (ve_callB call_lenA c_len (by rfl) T.z_len (by decide +kernel) (va_cons (vv 0) va_nil)) (nomark _)) (vss_one (vs_ret (ve_ix ix_seq s_ix (vv 0) (vv 1) (fun _ _ => rfl)))) vss_nil)
    (vss_one (vs_ret ve_int))))
abbrev s__law_draw : Stmt := topS 8
abbrev n__law_draw : List Str := ["_law_script", "_law_k", "_law_sizes", "_law_cell_here", "_law_drawn", "_law_size", "_law_mixed", "_law_j"]
theorem sc__law_draw : FnScope n__law_draw ["_law_script", "_law_k", "_law_sizes"] (defScope s__law_draw) := ⟨rfl, rfl, rfl, by decide +kernel, rfl, by decide +kernel, by decide +kernel⟩
theorem ok__law_draw (T : Txt K mg a__law_cell a__law_draw a__law_operand a__law_program a__law_random a__law_inputs a_result_of a_source_value a_performed a_traced a__law_result a__law_value a__law_after a_law) {fd__law_cell : FuncData} (G__law_cell : FnOk P w K mg base (L2.CX P w) 1 a__law_cell fd__law_cell ["_law_script", "_law_k"] (spV K ca 2 F__law_cell)) (b__law_cell : Binds K fd__law_cell ["_law_script", "_law_k"] []) {fd : FuncData} (F : Fun K "_law_draw" "_law_draw" s__law_draw a__law_draw fd) : FnOk P w K mg base (L2.CX P w) 2 a__law_draw fd ["_law_script", "_law_k", "_law_sizes"] (spV K ca 3 F__law_draw) :=
  fn_ok (k := 1) (N := n__law_draw) (body := B__law_draw) F sc__law_draw (fun cdv A outer s H E hr tk hp =>
    (vss_cons (vs_set (i := 3) sc__law_draw.nd rfl (Or.inl rfl) (ve_call G__law_cell (hr.mono (by decide)) (by rfl) T.g__law_cell T.k__law_cell b__law_cell tk (va_cons (vv 0) (va_cons (vv 1) va_nil))))
    (vss_cons (vs_if (vt_cmp op_lt s_lt (vv 3) ve_int (nomark _)) (vss_one (vs_set (i := 3) sc__law_draw.nd rfl (Or.inl rfl) (ve_un un_neg s_neg (vv 3)))) vss_nil)
    (vss_cons (vs_set (i := 4) sc__law_draw.nd rfl (Or.inl rfl) (ve_lst va_nil))
    (vss_cons (vs_if (vt_cmp op_ge s_ge (vv 3) (ve_op op_pow s_pow ve_int ve_int) (nomark _)) (vss_cons (vs_set (i := 3) sc__law_draw.nd rfl (Or.inl rfl) (ve_op op_sub s_sub (vv 3) (ve_op op_pow s_pow ve_int ve_int)))
    (vss_cons (vs_for hp rfl (vi_list (vv 2)) (vg_name sc__law_draw.nd rfl (Or.inl rfl)) (vss_cons (vs_app 4 (ve_op op_mod s_mod (vv 3) (vv 5)))
    (vss_one (vs_set (i := 3) sc__law_draw.nd rfl (Or.inl rfl) (ve_op op_fdiv s_div (vv 3) (vv 5))))))
    (vss_one (vs_retv 4)))) vss_nil)
    (vss_cons (vs_set (i := 6) sc__law_draw.nd rfl (Or.inl rfl) (ve_op op_mod s_mod (ve_op op_addA s_add (ve_op op_addA s_add (vv 3) ve_int) (ve_op op_mul s_mul ve_int (vv 1))) ve_int))
    (vss_cons (vs_for hp rfl (vi_range1 (by rfl) T.z_range (va_cons (ve_callB call_lenA c_len (by rfl) T.z_len (by decide +kernel) (va_cons (vv 2) va_nil)) va_nil)) (vg_name sc__law_draw.nd rfl (Or.inl rfl)) (vss_cons (vs_set (i := 6) sc__law_draw.nd rfl (Or.inl rfl) (ve_op op_mod s_mod (ve_op op_addA s_add (ve_op op_addA s_add (ve_op op_mul s_mul (vv 6) ve_int) ve_int) (vv 7)) ve_int))
    (vss_cons (vs_set (i := 6) sc__law_draw.nd rfl (Or.inl rfl) (ve_op op_mod s_mod (ve_op op_addA s_add (ve_op op_mul s_mul (vv 6) ve_int) ve_int) ve_int))
    (vss_one (vs_app 4 (ve_op op_mod s_mod (ve_op op_fdiv s_div (vv 6) ve_int) (ve_ix ix_seq s_ix (vv 2) (vv 7) (fun _ _ => rfl))))))))
    (vss_one (vs_retv 4)))))))))
abbrev s__law_operand : Stmt := topS 9
abbrev n__law_operand : List Str := ["_law_kind", "_law_number", "_law_modulus", "_law_inputs_here", "_law_many"]
theorem sc__law_operand : FnScope n__law_operand ["_law_kind", "_law_number", "_law_modulus", "_law_inputs_here", "_law_many"] (defScope s__law_operand) := ⟨rfl, rfl, rfl, by decide +kernel, rfl, by decide +kernel, by decide +kernel⟩
theorem ok__law_operand (T : Txt K mg a__law_cell a__law_draw a__law_operand a__law_program a__law_random a__law_inputs a_result_of a_source_value a_performed a_traced a__law_result a__law_value a__law_after a_law) {fd : FuncData} (F : Fun K "_law_operand" "_law_operand" s__law_operand a__law_operand fd) : FnOk P w K mg base (L2.CX P w) 1 a__law_operand fd ["_law_kind", "_law_number", "_law_modulus", "_law_inputs_here", "_law_many"] (spV K ca 5 F__law_operand) :=
  fn_ok (k := 0) (N := n__law_operand) (body := B__law_operand) F sc__law_operand (fun cdv A outer s H E hr tk hp =>
    (vss_cons (vs_if (vt_cmp (op_eqD hr.units) s_eq (vv 0) ve_int (nomark _)) (vss_one (vs_ret (ve_op op_addA s_add ve_str (ve_callTy call_str_int c_str (by rfl) T.z_str (by decide +kernel) (va_cons (ve_op op_mod s_mod (vv 1) (vv 3)) va_nil))))) vss_nil)
    (vss_cons (vs_if (vw (vw_or (vt_cmp (op_eqD hr.units) s_eq (vv 0) ve_int (nomark _)) (vw_or1 (vt_cmp (op_eqD hr.units) s_eq (vv 4) ve_int (nomark _))))) (vss_one (vs_ret (ve_callTy call_str_int c_str (by rfl) T.z_str (by decide +kernel) (va_cons (ve_op op_mod s_mod (vv 1) (vv 2)) va_nil)))) vss_nil)
    (vss_one (vs_ret (ve_op op_addA s_add ve_str (ve_callTy call_str_int c_str (by rfl) T.z_str (by decide +kernel) (va_cons (ve_op op_sub s_sub (ve_op op_sub s_sub (vv 4) ve_int) (ve_op op_mod s_mod (vv 1) (vv 4))) va_nil))))))))
abbrev s__law_program : Stmt := topS 10
abbrev n__law_program : List Str := ["_law_script", "_law_k", "_law_most", "_law_digits", "_law_modulus", "_law_inputs_here", "_law_steps", "_law_j", "_law_row", "_law_left", "_law_right", "_law_outputs"]
theorem sc__law_program : FnScope n__law_program ["_law_script", "_law_k", "_law_most"] (defScope s__law_program) := ⟨rfl, rfl, rfl, by decide +kernel, rfl, by decide +kernel, by decide +kernel⟩
theorem ok__law_program (T : Txt K mg a__law_cell a__law_draw a__law_operand a__law_program a__law_random a__law_inputs a_result_of a_source_value a_performed a_traced a__law_result a__law_value a__law_after a_law) {fd__law_draw : FuncData} (G__law_draw : FnOk P w K mg base (L2.CX P w) 2 a__law_draw fd__law_draw ["_law_script", "_law_k", "_law_sizes"] (spV K ca 3 F__law_draw)) (b__law_draw : Binds K fd__law_draw ["_law_script", "_law_k", "_law_sizes"] []) {fd__law_operand : FuncData} (G__law_operand : FnOk P w K mg base (L2.CX P w) 1 a__law_operand fd__law_operand ["_law_kind", "_law_number", "_law_modulus", "_law_inputs_here", "_law_many"] (spV K ca 5 F__law_operand)) (b__law_operand : Binds K fd__law_operand ["_law_kind", "_law_number", "_law_modulus", "_law_inputs_here", "_law_many"] []) {fd : FuncData} (F : Fun K "_law_program" "_law_program" s__law_program a__law_program fd) : FnOk P w K mg base (L2.CX P w) 3 a__law_program fd ["_law_script", "_law_k", "_law_most"] (spV K ca 3 F__law_program) :=
  fn_ok (k := 2) (N := n__law_program) (body := B__law_program) F sc__law_program (fun cdv A outer s H E hr tk hp =>
    (vss_cons (vs_set (i := 3) sc__law_program.nd rfl (Or.inr rfl) (ve_call G__law_draw (hr.mono (by decide)) (by rfl) T.g__law_draw T.k__law_draw b__law_draw tk (va_cons (vv 0) (va_cons (vv 1) (va_cons (ve_op op_addA s_add (ve_op op_addA s_add (ve_lst (va_cons ve_int (va_cons ve_int (va_cons (vv 2) va_nil)))) (ve_op op_rep s_rep (ve_lst (va_cons ve_int (va_cons ve_int (va_cons ve_int (va_cons ve_int (va_cons ve_int va_nil)))))) ve_int)) (ve_op op_rep s_rep (ve_lst (va_cons ve_int va_nil)) ve_int)) va_nil)))))
    (vss_cons (vs_set (i := 4) sc__law_program.nd rfl (Or.inl rfl) (ve_op op_addA s_add ve_int (ve_ix ix_seq s_ix (vv 3) ve_int (fun _ _ => rfl))))
    (vss_cons (vs_set (i := 5) sc__law_program.nd rfl (Or.inl rfl) (ve_op op_addA s_add ve_int (ve_ix ix_seq s_ix (vv 3) ve_int (fun _ _ => rfl))))
    (vss_cons (vs_set (i := 6) sc__law_program.nd rfl (Or.inl rfl) (ve_lst va_nil))
    (vss_cons (vs_for hp rfl (vi_range1 (by rfl) T.z_range (va_cons (ve_op op_addA s_add ve_int (ve_ix ix_seq s_ix (vv 3) ve_int (fun _ _ => rfl))) va_nil)) (vg_name sc__law_program.nd rfl (Or.inl rfl)) (vss_cons (vs_set (i := 8) sc__law_program.nd rfl (Or.inl rfl) (ve_sl (vv 3) (vo_some (ve_op op_addA s_add ve_int (ve_op op_mul s_mul ve_int (vv 7)))) (vo_some (ve_op op_addA s_add ve_int (ve_op op_mul s_mul ve_int (vv 7))))))
    (vss_cons (vs_fz 5 (vs_fz 4 (vs_set (i := 9) sc__law_program.nd rfl (Or.inl rfl) (ve_call G__law_operand (hr.mono (by decide)) (by rfl) T.g__law_operand T.k__law_operand b__law_operand tk (va_cons (ve_ix ix_seq s_ix (vv 8) ve_int (fun _ _ => rfl)) (va_cons (ve_ix ix_seq s_ix (vv 8) ve_int (fun _ _ => rfl)) (va_cons (vv 4) (va_cons (vv 5) (va_cons (ve_callB call_lenA c_len (by rfl) T.z_len (by decide +kernel) (va_cons (vv 6) va_nil)) va_nil)))))))))
    (vss_cons (vs_fz 5 (vs_fz 4 (vs_set (i := 10) sc__law_program.nd rfl (Or.inl rfl) (ve_call G__law_operand (hr.mono (by decide)) (by rfl) T.g__law_operand T.k__law_operand b__law_operand tk (va_cons (ve_ix ix_seq s_ix (vv 8) ve_int (fun _ _ => rfl)) (va_cons (ve_ix ix_seq s_ix (vv 8) ve_int (fun _ _ => rfl)) (va_cons (vv 4) (va_cons (vv 5) (va_cons (ve_callB call_lenA c_len (by rfl) T.z_len (by decide +kernel) (va_cons (vv 6) va_nil)) va_nil)))))))))
    (vss_one (vs_fz 10 (vs_fz 9 (vs_if (vt_cmp (op_notInA (hu65 hr)) s_notIn (ve_tup (va_cons (ve_ix ix_seq s_ix ve_str (ve_ix ix_seq s_ix (vv 8) ve_int (fun _ _ => rfl)) (fun _ _ => rfl)) (va_cons (vv 9) (va_cons (vv 10) va_nil)))) (vv 6) (by rfl)) (vss_one (vs_fz 10 (vs_fz 9 (vs_app 6 (ve_tup (va_cons (ve_ix ix_seq s_ix ve_str (ve_ix ix_seq s_ix (vv 8) ve_int (fun _ _ => rfl)) (fun _ _ => rfl)) (va_cons (vv 9) (va_cons (vv 10) va_nil)))))))) vss_nil))))))))
    (vss_cons (vs_setLc (i := 11) (own := [("_law_j", 7)]) rfl sc__law_program.nd rfl rfl (sw_true rfl rfl rfl (by decide +kernel)) (vi_range1 (by rfl) T.z_range (va_cons (ve_callB call_lenA c_len (by rfl) T.z_len (by decide +kernel) (va_cons (vv 6) va_nil)) va_nil)).vj (blkOk_by (own := [("_law_j", 7)]) (N := n__law_program) (sc := defScope s__law_program) (by decide +kernel)) (by decide) (fun _ _ _ _ _ => (vg_name sc__law_program.nd rfl (Or.inl rfl))) (fun _ _ _ _ _ => (vts_one (vt_cmp (op_eqD hr.units) s_eq (ve_ix ix_seq s_ix (vv 3) (ve_op op_addA s_add ve_int (vv 7)) (fun _ _ => rfl)) ve_int (nomark _)))) (fun _ _ _ _ _ => (vv 7)))
    (vss_cons (vs_if (vt_cmp (op_notInA (hu65 hr)) s_notIn (ve_op op_sub s_sub (ve_callB call_lenA c_len (by rfl) T.z_len (by decide +kernel) (va_cons (vv 6) va_nil)) ve_int) (vv 11) (by rfl)) (vss_one (vs_app 11 (ve_op op_sub s_sub (ve_callB call_lenA c_len (by rfl) T.z_len (by decide +kernel) (va_cons (vv 6) va_nil)) ve_int))) vss_nil)
    (vss_one (vs_fz 5 (vs_fz 4 (vs_ret (ve_tup (va_cons (vv 4) (va_cons (vv 5) (va_cons (ve_callTy call_tupN c_tuple (by rfl) T.z_tuple (by decide +kernel) (va_cons (vv 6) va_nil)) (va_cons (ve_callTy call_tupN c_tuple (by rfl) T.z_tuple (by decide +kernel) (va_cons (vv 11) va_nil)) va_nil)))))))))))))))))
abbrev s__law_random : Stmt := topS 15
abbrev n__law_random : List Str := ["_law_script", "_law_k", "_law_program_here", "_law_most", "_law_code", "_law_digits", "_law_j", "_law_row", "_law_words", "_law_kind", "_law_number", "_law_word"]
theorem sc__law_random : FnScope n__law_random ["_law_script", "_law_k", "_law_program_here", "_law_most"] (defScope s__law_random) := ⟨rfl, rfl, rfl, by decide +kernel, rfl, by decide +kernel, by decide +kernel⟩
theorem ok__law_random (T : Txt K mg a__law_cell a__law_draw a__law_operand a__law_program a__law_random a__law_inputs a_result_of a_source_value a_performed a_traced a__law_result a__law_value a__law_after a_law) {fd__law_draw : FuncData} (G__law_draw : FnOk P w K mg base (L2.CX P w) 2 a__law_draw fd__law_draw ["_law_script", "_law_k", "_law_sizes"] (spV K ca 3 F__law_draw)) (b__law_draw : Binds K fd__law_draw ["_law_script", "_law_k", "_law_sizes"] []) {fd : FuncData} (F : Fun K "_law_random" "_law_random" s__law_random a__law_random fd) : FnOk P w K mg base (L2.CX P w) 3 a__law_random fd ["_law_script", "_law_k", "_law_program_here", "_law_most"] (spV K ca 4 F__law_random) :=
  fn_ok (k := 2) (N := n__law_random) (body := B__law_random) F sc__law_random (fun cdv A outer s H E hr tk hp =>
    (vss_cons (vs_set (i := 4) sc__law_random.nd rfl (Or.inl rfl) (ve_lst va_nil))
    (vss_cons (vs_set (i := 5) sc__law_random.nd rfl (Or.inl rfl) (ve_call G__law_draw (hr.mono (by decide)) (by rfl) T.g__law_draw T.k__law_draw b__law_draw tk (va_cons (vv 0) (va_cons (vv 1) (va_cons (ve_op op_addA s_add (ve_lst (va_cons (vv 3) va_nil)) (ve_op op_rep s_rep (ve_lst (va_cons ve_int (va_cons ve_int (va_cons ve_int (va_cons ve_int (va_cons ve_int (va_cons ve_int (va_cons ve_int va_nil)))))))) (vv 3))) va_nil)))))
    (vss_cons (vs_for hp rfl (vi_range1 (by rfl) T.z_range (va_cons (ve_ix ix_seq s_ix (vv 5) ve_int (fun _ _ => rfl)) va_nil)) (vg_name sc__law_random.nd rfl (Or.inl rfl)) (vss_cons (vs_set (i := 7) sc__law_random.nd rfl (Or.inl rfl) (ve_sl (vv 5) (vo_some (ve_op op_addA s_add ve_int (ve_op op_mul s_mul ve_int (vv 6)))) (vo_some (ve_op op_addA s_add ve_int (ve_op op_mul s_mul ve_int (vv 6))))))
    (vss_cons (vs_set (i := 8) sc__law_random.nd rfl (Or.inl rfl) (ve_lst va_nil))
    (vss_cons (vs_for hp rfl (vi_list (ve_lst (va_cons (ve_tup (va_cons (ve_ix ix_seq s_ix (vv 7) ve_int (fun _ _ => rfl)) (va_cons (ve_ix ix_seq s_ix (vv 7) ve_int (fun _ _ => rfl)) va_nil))) (va_cons (ve_tup (va_cons (ve_ix ix_seq s_ix (vv 7) ve_int (fun _ _ => rfl)) (va_cons (ve_ix ix_seq s_ix (vv 7) ve_int (fun _ _ => rfl)) va_nil))) va_nil)))) (vg_tup rfl (vgs_cons sc__law_random.nd rfl (Or.inl rfl) (vgs_cons sc__law_random.nd rfl (Or.inl rfl) vgs_nil))) (vss_cons (vs_set (i := 11) sc__law_random.nd rfl (Or.inl rfl) (ve_op op_addA s_add ve_str (ve_callTy call_str_int c_str (by rfl) T.z_str (by decide +kernel) (va_cons (ve_op op_mod s_mod (ve_op op_addA s_add (ve_op op_addA s_add (ve_ix ix_seq s_ix (vv 7) ve_int (fun _ _ => rfl)) ve_int) (ve_op op_mod s_mod (vv 10) ve_int)) ve_int) va_nil))))
    (vss_cons (vs_if (vt_cmp (op_eqD hr.units) s_eq (vv 9) ve_int (nomark _)) (vss_one (vs_set (i := 11) sc__law_random.nd rfl (Or.inl rfl) (ve_op op_addA s_add ve_str (ve_callTy call_str_int c_str (by rfl) T.z_str (by decide +kernel) (va_cons (ve_op op_mod s_mod (vv 10) (ve_ix ix_seq s_ix (vv 2) ve_int (fun _ _ => rfl))) va_nil))))) vss_nil)
    (vss_cons (vs_if (vt_cmp (op_eqD hr.units) s_eq (vv 9) ve_int (nomark _)) (vss_one (vs_set (i := 11) sc__law_random.nd rfl (Or.inl rfl) (ve_callTy call_str_int c_str (by rfl) T.z_str (by decide +kernel) (va_cons (ve_op op_mod s_mod (vv 10) (ve_ix ix_seq s_ix (vv 2) ve_int (fun _ _ => rfl))) va_nil)))) vss_nil)
    (vss_one (vs_fz 11 (vs_app 8 (vv 11))))))))
    (vss_one (vs_app 4 (ve_tup (va_cons (ve_ix ix_seq s_ix (vv 7) ve_int (fun _ _ => rfl)) (va_cons (ve_ix ix_seq s_ix ve_str (ve_ix ix_seq s_ix (vv 7) ve_int (fun _ _ => rfl)) (fun _ _ => rfl)) (va_cons (ve_ix ix_seq s_ix ve_str (ve_ix ix_seq s_ix (vv 7) ve_int (fun _ _ => rfl)) (fun _ _ => rfl)) (va_cons (ve_ix ix_seq s_ix (vv 8) ve_int (fun _ _ => rfl)) (va_cons (ve_ix ix_seq s_ix (vv 8) ve_int (fun _ _ => rfl)) va_nil))))))))))))
    (vss_one (vs_retv 4))))))
abbrev s__law_inputs : Stmt := topS 13
abbrev n__law_inputs : List Str := ["_law_script", "_law_k", "_law_program_here", "_law_digits"]
theorem sc__law_inputs : FnScope n__law_inputs ["_law_script", "_law_k", "_law_program_here"] (defScope s__law_inputs) := ⟨rfl, rfl, rfl, by decide +kernel, rfl, by decide +kernel, by decide +kernel⟩
theorem ok__law_inputs (T : Txt K mg a__law_cell a__law_draw a__law_operand a__law_program a__law_random a__law_inputs a_result_of a_source_value a_performed a_traced a__law_result a__law_value a__law_after a_law) {fd__law_draw : FuncData} (G__law_draw : FnOk P w K mg base (L2.CX P w) 2 a__law_draw fd__law_draw ["_law_script", "_law_k", "_law_sizes"] (spV K ca 3 F__law_draw)) (b__law_draw : Binds K fd__law_draw ["_law_script", "_law_k", "_law_sizes"] []) {fd : FuncData} (F : Fun K "_law_inputs" "_law_inputs" s__law_inputs a__law_inputs fd) : FnOk P w K mg base (L2.CX P w) 3 a__law_inputs fd ["_law_script", "_law_k", "_law_program_here"] (spV K ca 3 F__law_inputs) :=
  fn_ok (k := 2) (N := n__law_inputs) (body := B__law_inputs) F sc__law_inputs (fun cdv A outer s H E hr tk hp =>
    (vss_cons (vs_set (i := 3) sc__law_inputs.nd rfl (Or.inl rfl) (ve_call G__law_draw (hr.mono (by decide)) (by rfl) T.g__law_draw T.k__law_draw b__law_draw tk (va_cons (vv 0) (va_cons (vv 1) (va_cons (ve_op op_rep s_rep (ve_lst (va_cons (ve_ix ix_seq s_ix (vv 2) ve_int (fun _ _ => rfl)) va_nil)) (ve_ix ix_seq s_ix (vv 2) ve_int (fun _ _ => rfl))) va_nil)))))
    (vss_one (vs_ret (ve_callTy call_list_of c_list (by rfl) T.z_list (by decide +kernel) (va_cons (vv 3) va_nil))))))
abbrev s_result_of : Stmt := topS 3
abbrev n_result_of : List Str := ["operation", "left", "right"]
theorem sc_result_of : FnScope n_result_of ["operation", "left", "right"] (defScope s_result_of) := ⟨rfl, rfl, rfl, by decide +kernel, rfl, by decide +kernel, by decide +kernel⟩
theorem ok_result_of (T : Txt K mg a__law_cell a__law_draw a__law_operand a__law_program a__law_random a__law_inputs a_result_of a_source_value a_performed a_traced a__law_result a__law_value a__law_after a_law) {fd : FuncData} (F : Fun K "result_of" "result_of" s_result_of a_result_of fd) : FnOk P w K mg base (L2.CX P w) 1 a_result_of fd ["operation", "left", "right"] (spV K ca 3 F_result_of) :=
  fn_ok (k := 0) (N := n_result_of) (body := B_result_of) F sc_result_of (fun cdv A outer s H E hr tk hp =>
    (vss_cons (vs_if (vt_cmp (op_eqD hr.units) s_eq (vv 0) ve_str (nomark _)) (vss_one (vs_ret (ve_op op_addA s_add (vv 1) (vv 2)))) vss_nil)
    (vss_cons (vs_if (vt_cmp (op_eqD hr.units) s_eq (vv 0) ve_str (nomark _)) (vss_one (vs_ret (ve_op op_sub s_sub (vv 1) (vv 2)))) vss_nil)
    (vss_one (vs_ret (ve_op op_mul s_mul (vv 1) (vv 2)))))))
abbrev s_source_value : Stmt := topS 2
abbrev n_source_value : List Str := ["source", "inputs", "registers"]
theorem sc_source_value : FnScope n_source_value ["source", "inputs", "registers"] (defScope s_source_value) := ⟨rfl, rfl, rfl, by decide +kernel, rfl, by decide +kernel, by decide +kernel⟩
theorem ok_source_value (T : Txt K mg a__law_cell a__law_draw a__law_operand a__law_program a__law_random a__law_inputs a_result_of a_source_value a_performed a_traced a__law_result a__law_value a__law_after a_law) {fd : FuncData} (F : Fun K "source_value" "source_value" s_source_value a_source_value fd) : FnOk P w K mg base (L2.CX P w) 1 a_source_value fd ["source", "inputs", "registers"] (spV K ca 3 F_source_value) :=
  fn_ok (k := 0) (N := n_source_value) (body := B_source_value) F sc_source_value (fun cdv A outer s H E hr tk hp =>
    (vss_cons (vs_if (vt_cmp (op_eqD hr.units) s_eq (ve_ix ix_seq s_ix (vv 0) ve_int (fun _ _ => rfl)) ve_str (nomark _)) (vss_one (vs_ret (ve_ix ix_seq s_ix (vv 1) (ve_callTy call_int_str c_int (by rfl) T.z_int (by decide +kernel) (va_cons (ve_sl (vv 0) (vo_some ve_int) vo_none) va_nil)) (fun _ _ => rfl)))) vss_nil)
    (vss_cons (vs_if (vt_cmp (op_eqD hr.units) s_eq (ve_ix ix_seq s_ix (vv 0) ve_int (fun _ _ => rfl)) ve_str (nomark _)) (vss_one (vs_ret (ve_ix ix_seq s_ix (vv 2) (ve_callTy call_int_str c_int (by rfl) T.z_int (by decide +kernel) (va_cons (ve_sl (vv 0) (vo_some ve_int) vo_none) va_nil)) (fun _ _ => rfl)))) vss_nil)
    (vss_one (vs_ret (ve_callTy call_int_str c_int (by rfl) T.z_int (by decide +kernel) (va_cons (vv 0) va_nil)))))))
abbrev s_performed : Stmt := topS 4
abbrev n_performed : List Str := ["program", "instruction", "inputs", "registers", "cell", "sign", "operation", "left", "right", "result", "contents"]
theorem sc_performed : FnScope n_performed ["program", "instruction", "inputs", "registers"] (defScope s_performed) := ⟨rfl, rfl, rfl, by decide +kernel, rfl, by decide +kernel, by decide +kernel⟩
theorem ok_performed (T : Txt K mg a__law_cell a__law_draw a__law_operand a__law_program a__law_random a__law_inputs a_result_of a_source_value a_performed a_traced a__law_result a__law_value a__law_after a_law) {fd_result_of : FuncData} (G_result_of : FnOk P w K mg base (L2.CX P w) 1 a_result_of fd_result_of ["operation", "left", "right"] (spV K ca 3 F_result_of)) (b_result_of : Binds K fd_result_of ["operation", "left", "right"] []) {fd_source_value : FuncData} (G_source_value : FnOk P w K mg base (L2.CX P w) 1 a_source_value fd_source_value ["source", "inputs", "registers"] (spV K ca 3 F_source_value)) (b_source_value : Binds K fd_source_value ["source", "inputs", "registers"] []) {fd : FuncData} (F : Fun K "performed" "performed" s_performed a_performed fd) : FnOk P w K mg base (L2.CX P w) 2 a_performed fd ["program", "instruction", "inputs", "registers"] (spV K ca 4 F_performed) :=
  fn_ok (k := 1) (N := n_performed) (body := B_performed) F sc_performed (fun cdv A outer s H E hr tk hp =>
    (vss_cons (vs_unp (vv 1) (vg_tup rfl (vgs_cons sc_performed.nd rfl (Or.inl rfl) (vgs_cons sc_performed.nd rfl (Or.inl rfl) (vgs_cons sc_performed.nd rfl (Or.inl rfl) (vgs_cons sc_performed.nd rfl (Or.inl rfl) (vgs_cons sc_performed.nd rfl (Or.inl rfl) vgs_nil)))))))
    (vss_cons (vs_set (i := 9) sc_performed.nd rfl (Or.inl rfl) (ve_call G_result_of (hr.mono (by decide)) (by rfl) T.g_result_of T.k_result_of b_result_of tk (va_cons (vv 6) (va_cons (ve_call G_source_value (hr.mono (by decide)) (by rfl) T.g_source_value T.k_source_value b_source_value tk (va_cons (vv 7) (va_cons (vv 2) (va_cons (vv 3) va_nil)))) (va_cons (ve_call G_source_value (hr.mono (by decide)) (by rfl) T.g_source_value T.k_source_value b_source_value tk (va_cons (vv 8) (va_cons (vv 2) (va_cons (vv 3) va_nil)))) va_nil)))))
    (vss_cons (vs_set (i := 10) sc_performed.nd rfl (Or.inl rfl) (ve_callTy call_list_of c_list (by rfl) T.z_list (by decide +kernel) (va_cons (vv 3) va_nil)))
    (vss_cons (vs_if (vt_cmp (op_eqD hr.units) s_eq (vv 5) ve_str (nomark _)) (vss_one (vs_store 10 (ve_op op_mod s_mod (ve_op op_addA s_add (ve_ix ix_seq s_ix (vv 10) (vv 4) (fun _ _ => rfl)) (vv 9)) (ve_ix ix_seq s_ix (vv 0) ve_int (fun _ _ => rfl))) (vv 4))) (vss_one (vs_store 10 (ve_op op_mod s_mod (ve_op op_sub s_sub (ve_ix ix_seq s_ix (vv 10) (vv 4) (fun _ _ => rfl)) (vv 9)) (ve_ix ix_seq s_ix (vv 0) ve_int (fun _ _ => rfl))) (vv 4))))
    (vss_one (vs_retv 10)))))))
abbrev s_traced : Stmt := topS 5
abbrev n_traced : List Str := ["program", "code", "inputs", "states", "instruction"]
theorem sc_traced : FnScope n_traced ["program", "code", "inputs"] (defScope s_traced) := ⟨rfl, rfl, rfl, by decide +kernel, rfl, by decide +kernel, by decide +kernel⟩
theorem ok_traced (T : Txt K mg a__law_cell a__law_draw a__law_operand a__law_program a__law_random a__law_inputs a_result_of a_source_value a_performed a_traced a__law_result a__law_value a__law_after a_law) {fd_performed : FuncData} (G_performed : FnOk P w K mg base (L2.CX P w) 2 a_performed fd_performed ["program", "instruction", "inputs", "registers"] (spV K ca 4 F_performed)) (b_performed : Binds K fd_performed ["program", "instruction", "inputs", "registers"] []) {fd : FuncData} (F : Fun K "traced" "traced" s_traced a_traced fd) : FnOk P w K mg base (L2.CX P w) 3 a_traced fd ["program", "code", "inputs"] (spV K ca 3 F_traced) :=
  fn_ok (k := 2) (N := n_traced) (body := B_traced) F sc_traced (fun cdv A outer s H E hr tk hp =>
    (vss_cons (vs_set (i := 3) sc_traced.nd rfl (Or.inl rfl) (ve_lst (va_cons (ve_op op_rep s_rep (ve_lst (va_cons ve_int va_nil)) (ve_gint (by rfl) T.c_REGISTERS.choose_spec)) va_nil)))
    (vss_cons (vs_for hp rfl (vi_any (vv 1)) (vg_name sc_traced.nd rfl (Or.inl rfl)) (vss_one (vs_app 3 (ve_call G_performed (hr.mono (by decide)) (by rfl) T.g_performed T.k_performed b_performed tk (va_cons (vv 0) (va_cons (vv 4) (va_cons (vv 2) (va_cons (ve_ix ix_seq s_ix (vv 3) (ve_un un_neg s_neg ve_int) (fun _ _ => rfl)) va_nil))))))))
    (vss_one (vs_retv 3)))))
theorem ok_tracedR (T : Txt K mg a__law_cell a__law_draw a__law_operand a__law_program a__law_random a__law_inputs a_result_of a_source_value a_performed a_traced a__law_result a__law_value a__law_after a_law) {fd_performed : FuncData} (G_performed : FnOk P w K mg base (L2.CX P w) 2 a_performed fd_performed ["program", "instruction", "inputs", "registers"] (spV K ca 4 F_performed)) (b_performed : Binds K fd_performed ["program", "instruction", "inputs", "registers"] []) {fd : FuncData} (F : Fun K "traced" "traced" s_traced a_traced fd) : FnOk P w K mg base (L2.CX P w) 3 a_traced fd ["program", "code", "inputs"] (spR K ca 3 F_tracedR) :=
  fn_okR (k := 2) (N := n_traced) (body := B_tracedR) F sc_traced (fun cdv A outer s H E hr tk hp =>
    vss_RE (vr_set (W := fun cls dx _ H1 => E cls dx H1) sc_traced.nd rfl (Or.inl rfl) (ve_op op_rep s_rep (ve_lst (va_cons ve_int va_nil)) (ve_gint (by rfl) T.c_REGISTERS.choose_spec))) (vr_forE (W := fun cls dx _ H1 => E cls dx H1) hp rfl (vi_any (vv 1)) (vg_name sc_traced.nd rfl (Or.inl rfl)) (vr_one (vr_app 3 (ve_call G_performed (hr.mono (by decide)) (by rfl) T.g_performed T.k_performed b_performed tk (va_cons (vv 0) (va_cons (vv 4) (va_cons (vv 2) (va_cons (ve_ix ix_seq s_ix (vv 3) (ve_un un_neg s_neg ve_int) (fun _ _ => rfl)) va_nil))))))) (by decide)))
abbrev s__law_result : Stmt := topS 11
abbrev n__law_result : List Str := ["_law_operation", "_law_left", "_law_right", "_law_modulus"]
theorem sc__law_result : FnScope n__law_result ["_law_operation", "_law_left", "_law_right", "_law_modulus"] (defScope s__law_result) := ⟨rfl, rfl, rfl, by decide +kernel, rfl, by decide +kernel, by decide +kernel⟩
theorem ok__law_result (T : Txt K mg a__law_cell a__law_draw a__law_operand a__law_program a__law_random a__law_inputs a_result_of a_source_value a_performed a_traced a__law_result a__law_value a__law_after a_law) {fd : FuncData} (F : Fun K "_law_result" "_law_result" s__law_result a__law_result fd) : FnOk P w K mg base (L2.CX P w) 1 a__law_result fd ["_law_operation", "_law_left", "_law_right", "_law_modulus"] (spV K ca 4 F__law_result) :=
  fn_ok (k := 0) (N := n__law_result) (body := B__law_result) F sc__law_result (fun cdv A outer s H E hr tk hp =>
    (vss_cons (vs_if (vt_cmp (op_eqD hr.units) s_eq (vv 0) ve_str (nomark _)) (vss_one (vs_ret (ve_op op_mod s_mod (ve_op op_addA s_add (vv 1) (vv 2)) (vv 3)))) vss_nil)
    (vss_cons (vs_if (vt_cmp (op_eqD hr.units) s_eq (vv 0) ve_str (nomark _)) (vss_one (vs_ret (ve_op op_mod s_mod (ve_op op_sub s_sub (vv 1) (vv 2)) (vv 3)))) vss_nil)
    (vss_one (vs_ret (ve_op op_mod s_mod (ve_op op_mul s_mul (vv 1) (vv 2)) (vv 3)))))))
abbrev s__law_value : Stmt := topS 12
abbrev n__law_value : List Str := ["_law_word", "_law_inputs_here", "_law_others"]
theorem sc__law_value : FnScope n__law_value ["_law_word", "_law_inputs_here", "_law_others"] (defScope s__law_value) := ⟨rfl, rfl, rfl, by decide +kernel, rfl, by decide +kernel, by decide +kernel⟩
theorem ok__law_value (T : Txt K mg a__law_cell a__law_draw a__law_operand a__law_program a__law_random a__law_inputs a_result_of a_source_value a_performed a_traced a__law_result a__law_value a__law_after a_law) {fd : FuncData} (F : Fun K "_law_value" "_law_value" s__law_value a__law_value fd) : FnOk P w K mg base (L2.CX P w) 1 a__law_value fd ["_law_word", "_law_inputs_here", "_law_others"] (spV K ca 3 F__law_value) :=
  fn_ok (k := 0) (N := n__law_value) (body := B__law_value) F sc__law_value (fun cdv A outer s H E hr tk hp =>
    (vss_cons (vs_if (vt_cmp (op_eqD hr.units) s_eq (ve_ix ix_seq s_ix (vv 0) ve_int (fun _ _ => rfl)) ve_str (nomark _)) (vss_one (vs_ret (ve_ix ix_seq s_ix (vv 1) (ve_callTy call_int_str c_int (by rfl) T.z_int (by decide +kernel) (va_cons (ve_sl (vv 0) (vo_some ve_int) vo_none) va_nil)) (fun _ _ => rfl)))) vss_nil)
    (vss_cons (vs_if (vw (vw_or (vt_cmp (op_eqD hr.units) s_eq (ve_ix ix_seq s_ix (vv 0) ve_int (fun _ _ => rfl)) ve_str (nomark _)) (vw_or1 (vt_cmp (op_eqD hr.units) s_eq (ve_ix ix_seq s_ix (vv 0) ve_int (fun _ _ => rfl)) ve_str (nomark _))))) (vss_one (vs_ret (ve_ix ix_seq s_ix (vv 2) (ve_callTy call_int_str c_int (by rfl) T.z_int (by decide +kernel) (va_cons (ve_sl (vv 0) (vo_some ve_int) vo_none) va_nil)) (fun _ _ => rfl)))) vss_nil)
    (vss_one (vs_ret (ve_callTy call_int_str c_int (by rfl) T.z_int (by decide +kernel) (va_cons (vv 0) va_nil)))))))
abbrev s__law_after : Stmt := topS 14
abbrev n__law_after : List Str := ["_law_program_here", "_law_code", "_law_inputs_here", "_law_registers", "_law_contents", "_law_reg", "_law_sign", "_law_operation", "_law_left", "_law_right", "_law_value_here"]
theorem sc__law_after : FnScope n__law_after ["_law_program_here", "_law_code", "_law_inputs_here", "_law_registers"] (defScope s__law_after) := ⟨rfl, rfl, rfl, by decide +kernel, rfl, by decide +kernel, by decide +kernel⟩
theorem ok__law_after (T : Txt K mg a__law_cell a__law_draw a__law_operand a__law_program a__law_random a__law_inputs a_result_of a_source_value a_performed a_traced a__law_result a__law_value a__law_after a_law) {fd__law_result : FuncData} (G__law_result : FnOk P w K mg base (L2.CX P w) 1 a__law_result fd__law_result ["_law_operation", "_law_left", "_law_right", "_law_modulus"] (spV K ca 4 F__law_result)) (b__law_result : Binds K fd__law_result ["_law_operation", "_law_left", "_law_right", "_law_modulus"] []) {fd__law_value : FuncData} (G__law_value : FnOk P w K mg base (L2.CX P w) 1 a__law_value fd__law_value ["_law_word", "_law_inputs_here", "_law_others"] (spV K ca 3 F__law_value)) (b__law_value : Binds K fd__law_value ["_law_word", "_law_inputs_here", "_law_others"] []) {fd : FuncData} (F : Fun K "_law_after" "_law_after" s__law_after a__law_after fd) : FnOk P w K mg base (L2.CX P w) 2 a__law_after fd ["_law_program_here", "_law_code", "_law_inputs_here", "_law_registers"] (spV K ca 4 F__law_after) :=
  fn_ok (k := 1) (N := n__law_after) (body := B__law_after) F sc__law_after (fun cdv A outer s H E hr tk hp =>
    (vss_cons (vs_set (i := 4) sc__law_after.nd rfl (Or.inl rfl) (ve_callTy call_list_of c_list (by rfl) T.z_list (by decide +kernel) (va_cons (vv 3) va_nil)))
    (vss_cons (vs_for hp rfl (vi_any (vv 1)) (vg_tup rfl (vgs_cons sc__law_after.nd rfl (Or.inl rfl) (vgs_cons sc__law_after.nd rfl (Or.inl rfl) (vgs_cons sc__law_after.nd rfl (Or.inl rfl) (vgs_cons sc__law_after.nd rfl (Or.inl rfl) (vgs_cons sc__law_after.nd rfl (Or.inl rfl) vgs_nil)))))) (vss_cons (vs_set (i := 10) sc__law_after.nd rfl (Or.inl rfl) (ve_call G__law_result (hr.mono (by decide)) (by rfl) T.g__law_result T.k__law_result b__law_result tk (va_cons (vv 7) (va_cons (ve_call G__law_value (hr.mono (by decide)) (by rfl) T.g__law_value T.k__law_value b__law_value tk (va_cons (vv 8) (va_cons (vv 2) (va_cons (vv 4) va_nil)))) (va_cons (ve_call G__law_value (hr.mono (by decide)) (by rfl) T.g__law_value T.k__law_value b__law_value tk (va_cons (vv 9) (va_cons (vv 2) (va_cons (vv 4) va_nil)))) (va_cons (ve_ix ix_seq s_ix (vv 0) ve_int (fun _ _ => rfl)) va_nil))))))
    (vss_cons (vs_if (vt_cmp (op_eqD hr.units) s_eq (vv 6) ve_str (nomark _)) (vss_one (vs_set (i := 10) sc__law_after.nd rfl (Or.inl rfl) (ve_un un_neg s_neg (vv 10)))) vss_nil)
    (vss_one (vs_store 4 (ve_op op_mod s_mod (ve_op op_addA s_add (ve_ix ix_seq s_ix (vv 4) (vv 5) (fun _ _ => rfl)) (vv 10)) (ve_ix ix_seq s_ix (vv 0) ve_int (fun _ _ => rfl))) (vv 5))))))
    (vss_one (vs_retv 4)))))
abbrev s_law : Stmt := topS 16
abbrev n_law : List Str := ["_law_script", "_law_k", "_law_program_here", "_law_code", "_law_inputs_here", "_law_due", "_law_told", "_law_n"]
theorem sc_law : FnScope n_law ["_law_script"] (defScope s_law) := ⟨rfl, rfl, rfl, by decide +kernel, rfl, by decide +kernel, by decide +kernel⟩
theorem ok_law (T : Txt K mg a__law_cell a__law_draw a__law_operand a__law_program a__law_random a__law_inputs a_result_of a_source_value a_performed a_traced a__law_result a__law_value a__law_after a_law) {fd_traced : FuncData} (G_traced : FnOk P w K mg base (L2.CX P w) 3 a_traced fd_traced ["program", "code", "inputs"] (spV K ca 3 F_traced)) (b_traced : Binds K fd_traced ["program", "code", "inputs"] []) (G_tracedR : FnOk P w K mg base (L2.CX P w) 3 a_traced fd_traced ["program", "code", "inputs"] (spR K ca 3 F_tracedR)) {fd__law_program : FuncData} (G__law_program : FnOk P w K mg base (L2.CX P w) 3 a__law_program fd__law_program ["_law_script", "_law_k", "_law_most"] (spV K ca 3 F__law_program)) (b__law_program : Binds K fd__law_program ["_law_script", "_law_k", "_law_most"] []) {fd__law_random : FuncData} (G__law_random : FnOk P w K mg base (L2.CX P w) 3 a__law_random fd__law_random ["_law_script", "_law_k", "_law_program_here", "_law_most"] (spV K ca 4 F__law_random)) (b__law_random : Binds K fd__law_random ["_law_script", "_law_k", "_law_program_here", "_law_most"] []) {fd__law_inputs : FuncData} (G__law_inputs : FnOk P w K mg base (L2.CX P w) 3 a__law_inputs fd__law_inputs ["_law_script", "_law_k", "_law_program_here"] (spV K ca 3 F__law_inputs)) (b__law_inputs : Binds K fd__law_inputs ["_law_script", "_law_k", "_law_program_here"] []) {fd__law_after : FuncData} (G__law_after : FnOk P w K mg base (L2.CX P w) 2 a__law_after fd__law_after ["_law_program_here", "_law_code", "_law_inputs_here", "_law_registers"] (spV K ca 4 F__law_after)) (b__law_after : Binds K fd__law_after ["_law_program_here", "_law_code", "_law_inputs_here", "_law_registers"] []) {fd : FuncData} (F : Fun K "law" "law" s_law a_law fd) : FnOk P w K mg base (L2.CX P w) 4 a_law fd ["_law_script"] (spV K ca 1 F_law) :=
  fn_ok (k := 3) (N := n_law) (body := B_law) F sc_law (fun cdv A outer s H E hr tk hp =>
    (vss_cons (vs_for hp rfl (vi_range1 (by rfl) T.z_range (va_cons (ve_callB (call_min2 rfl) c_min2 (by rfl) T.z_min (by decide +kernel) (va_cons ve_int (va_cons (ve_callB (call_max2 rfl) c_max2 (by rfl) T.z_max (by decide +kernel) (va_cons ve_int (va_cons (ve_op op_fdiv s_div (ve_callB call_lenA c_len (by rfl) T.z_len (by decide +kernel) (va_cons (vv 0) va_nil)) ve_int) va_nil))) va_nil))) va_nil)) (vg_name sc_law.nd rfl (Or.inl rfl)) (vss_cons (vs_set (i := 2) sc_law.nd rfl (Or.inr rfl) (ve_call G__law_program (hr.mono (by decide)) (by rfl) T.g__law_program T.k__law_program b__law_program tk (va_cons (vv 0) (va_cons (ve_op op_mul s_mul ve_int (vv 1)) (va_cons ve_int va_nil)))))
    (vss_cons (vs_fz 2 (vs_set (i := 3) sc_law.nd rfl (Or.inr rfl) (ve_call G__law_random (hr.mono (by decide)) (by rfl) T.g__law_random T.k__law_random b__law_random tk (va_cons (vv 0) (va_cons (ve_op op_addA s_add (ve_op op_mul s_mul ve_int (vv 1)) ve_int) (va_cons (vv 2) (va_cons ve_int va_nil)))))))
    (vss_cons (vs_fz 2 (vs_set (i := 4) sc_law.nd rfl (Or.inr rfl) (ve_call G__law_inputs (hr.mono (by decide)) (by rfl) T.g__law_inputs T.k__law_inputs b__law_inputs tk (va_cons (vv 0) (va_cons (ve_op op_addA s_add (ve_op op_mul s_mul ve_int (vv 1)) ve_int) (va_cons (vv 2) va_nil))))))
    (vss_cons (vs_fz 4 (vs_fz 2 (vs_setLc (i := 5) (own := [("_law_n", 7)]) rfl sc_law.nd rfl rfl (sw_true rfl rfl rfl (by decide +kernel)) (vi_range1 (by rfl) T.z_range (va_cons (ve_op op_addA s_add (ve_callB call_lenA c_len (by rfl) T.z_len (by decide +kernel) (va_cons (vv 3) va_nil)) ve_int) va_nil)).vj (blkOk_by (own := [("_law_n", 7)]) (N := n_law) (sc := defScope s_law) (by decide +kernel)) (by decide) (fun _ _ _ _ _ => (vg_name sc_law.nd rfl (Or.inl rfl))) (fun _ _ _ _ _ => vts_nil) (fun _ _ _ _ _ => (ve_call G__law_after (hr.mono (by decide)) (by rfl) T.g__law_after T.k__law_after b__law_after takes0 (va_cons (vv 2) (va_cons (ve_sl (vv 3) vo_none (vo_some (vv 7))) (va_cons (vv 4) (va_cons (ve_op op_rep s_rep (ve_lst (va_cons ve_int va_nil)) ve_int) va_nil)))))))))
    (vss_fz 2 (vss_fz 3 (vss_fz 4 (vss_told (i := 6) G_tracedR (hr.mono (by decide)) (by rfl) T.g_traced T.k_traced b_traced tk (va_cons (vv 2) (va_cons (vv 3) (va_cons (vv 4) va_nil))) (vt_cmp (op_neD hr.units) s_ne (vv 6) (vv 5) (nomark _)) (vss_one (vs_ret ve_bl)) (ve_op op_addA s_add (ve_ix ix_seq s_ix (ve_ix ix_seq s_ix (vv 6) ve_int (fun _ _ => rfl)) ve_int (fun _ _ => rfl)) ve_int) (vss_one (vs_fz 4 (vs_fz 3 (vs_fz 2 (vs_if (vw (vw_or (vt_cmp (op_neD hr.units) s_ne (ve_sl (vv 6) (vo_some ve_int) vo_none) (ve_sl (vv 5) (vo_some ve_int) vo_none) (nomark _)) (vw_or1 (vt_cmp (op_neD hr.units) s_ne (ve_call G_traced (hr.mono (by decide)) (by rfl) T.g_traced T.k_traced b_traced tk (va_cons (vv 2) (va_cons (vv 3) (va_cons (vv 4) va_nil)))) (vv 5) (nomark _))))) (vss_one (vs_ret ve_bl)) vss_nil))))) sc_law.nd rfl (Or.inl rfl))))))))))
    (vss_one (vs_ret ve_bl))))
end
theorem all_mk {l : PySem.W.OpenLaw} {w : World} {K : PySem.W.Frag} {h : Heap} {mg : Str → Option Value} {fa a__law_cell a__law_draw a__law_operand a__law_program a__law_random a__law_inputs a_result_of a_source_value a_performed a_traced a__law_result a__law_value a__law_after a_law : Addr} (X : K.In h) (G : h.Ns mainGlobals mg) (hfa : mg "law" = some (.ref fa))
    {od__law_cell an__law_cell od__law_draw an__law_draw od__law_operand an__law_operand od__law_program an__law_program od__law_random an__law_random od__law_inputs an__law_inputs od_result_of an_result_of od_source_value an_source_value od_performed an_performed od_traced an_traced od__law_result an__law_result od__law_value an__law_value od__law_after an__law_after od_law an_law : Option Addr} {sl__law_cell sl__law_draw sl__law_operand sl__law_program sl__law_random sl__law_inputs sl_result_of sl_source_value sl_performed sl_traced sl__law_result sl__law_value sl__law_after sl_law : Array (Option Value)} {oc__law_cell kV__law_cell dc__law_cell pm__law_cell cd__law_cell ct__law_cell oc__law_draw kV__law_draw dc__law_draw pm__law_draw cd__law_draw ct__law_draw oc__law_operand kV__law_operand dc__law_operand pm__law_operand cd__law_operand ct__law_operand oc__law_program kV__law_program dc__law_program pm__law_program cd__law_program ct__law_program oc__law_random kV__law_random dc__law_random pm__law_random cd__law_random ct__law_random oc__law_inputs kV__law_inputs dc__law_inputs pm__law_inputs cd__law_inputs ct__law_inputs oc_result_of kV_result_of dc_result_of pm_result_of cd_result_of ct_result_of oc_source_value kV_source_value dc_source_value pm_source_value cd_source_value ct_source_value oc_performed kV_performed dc_performed pm_performed cd_performed ct_performed oc_traced kV_traced dc_traced pm_traced cd_traced ct_traced oc__law_result kV__law_result dc__law_result pm__law_result cd__law_result ct__law_result oc__law_value kV__law_value dc__law_value pm__law_value cd__law_value ct__law_value oc__law_after kV__law_after dc__law_after pm__law_after cd__law_after ct__law_after oc_law kV_law dc_law pm_law cd_law ct_law : Value}
    (p__law_cell : PySem.W.nsIn K mainGlobals "_law_cell" = some (some (.ref a__law_cell))) (l__law_cell : K.lookup a__law_cell = some ⟨oc__law_cell, od__law_cell, .func (PySem.W.fnOf "_law_cell" "_law_cell" (defArgs s__law_cell) (defBody s__law_cell) (defScope s__law_cell) .none kV__law_cell dc__law_cell pm__law_cell an__law_cell cd__law_cell ct__law_cell), sl__law_cell⟩) (c__law_cell : PySem.W.codeIn K cd__law_cell "_law_cell" = true) (k__law_cell : PySem.W.keepIn K (.ref a__law_cell) = true)
    (p__law_draw : PySem.W.nsIn K mainGlobals "_law_draw" = some (some (.ref a__law_draw))) (l__law_draw : K.lookup a__law_draw = some ⟨oc__law_draw, od__law_draw, .func (PySem.W.fnOf "_law_draw" "_law_draw" (defArgs s__law_draw) (defBody s__law_draw) (defScope s__law_draw) .none kV__law_draw dc__law_draw pm__law_draw an__law_draw cd__law_draw ct__law_draw), sl__law_draw⟩) (c__law_draw : PySem.W.codeIn K cd__law_draw "_law_draw" = true) (k__law_draw : PySem.W.keepIn K (.ref a__law_draw) = true)
    (p__law_operand : PySem.W.nsIn K mainGlobals "_law_operand" = some (some (.ref a__law_operand))) (l__law_operand : K.lookup a__law_operand = some ⟨oc__law_operand, od__law_operand, .func (PySem.W.fnOf "_law_operand" "_law_operand" (defArgs s__law_operand) (defBody s__law_operand) (defScope s__law_operand) .none kV__law_operand dc__law_operand pm__law_operand an__law_operand cd__law_operand ct__law_operand), sl__law_operand⟩) (c__law_operand : PySem.W.codeIn K cd__law_operand "_law_operand" = true) (k__law_operand : PySem.W.keepIn K (.ref a__law_operand) = true)
    (p__law_program : PySem.W.nsIn K mainGlobals "_law_program" = some (some (.ref a__law_program))) (l__law_program : K.lookup a__law_program = some ⟨oc__law_program, od__law_program, .func (PySem.W.fnOf "_law_program" "_law_program" (defArgs s__law_program) (defBody s__law_program) (defScope s__law_program) .none kV__law_program dc__law_program pm__law_program an__law_program cd__law_program ct__law_program), sl__law_program⟩) (c__law_program : PySem.W.codeIn K cd__law_program "_law_program" = true) (k__law_program : PySem.W.keepIn K (.ref a__law_program) = true)
    (p__law_random : PySem.W.nsIn K mainGlobals "_law_random" = some (some (.ref a__law_random))) (l__law_random : K.lookup a__law_random = some ⟨oc__law_random, od__law_random, .func (PySem.W.fnOf "_law_random" "_law_random" (defArgs s__law_random) (defBody s__law_random) (defScope s__law_random) .none kV__law_random dc__law_random pm__law_random an__law_random cd__law_random ct__law_random), sl__law_random⟩) (c__law_random : PySem.W.codeIn K cd__law_random "_law_random" = true) (k__law_random : PySem.W.keepIn K (.ref a__law_random) = true)
    (p__law_inputs : PySem.W.nsIn K mainGlobals "_law_inputs" = some (some (.ref a__law_inputs))) (l__law_inputs : K.lookup a__law_inputs = some ⟨oc__law_inputs, od__law_inputs, .func (PySem.W.fnOf "_law_inputs" "_law_inputs" (defArgs s__law_inputs) (defBody s__law_inputs) (defScope s__law_inputs) .none kV__law_inputs dc__law_inputs pm__law_inputs an__law_inputs cd__law_inputs ct__law_inputs), sl__law_inputs⟩) (c__law_inputs : PySem.W.codeIn K cd__law_inputs "_law_inputs" = true) (k__law_inputs : PySem.W.keepIn K (.ref a__law_inputs) = true)
    (p_result_of : PySem.W.nsIn K mainGlobals "result_of" = some (some (.ref a_result_of))) (l_result_of : K.lookup a_result_of = some ⟨oc_result_of, od_result_of, .func (PySem.W.fnOf "result_of" "result_of" (defArgs s_result_of) (defBody s_result_of) (defScope s_result_of) .none kV_result_of dc_result_of pm_result_of an_result_of cd_result_of ct_result_of), sl_result_of⟩) (c_result_of : PySem.W.codeIn K cd_result_of "result_of" = true) (k_result_of : PySem.W.keepIn K (.ref a_result_of) = true)
    (p_source_value : PySem.W.nsIn K mainGlobals "source_value" = some (some (.ref a_source_value))) (l_source_value : K.lookup a_source_value = some ⟨oc_source_value, od_source_value, .func (PySem.W.fnOf "source_value" "source_value" (defArgs s_source_value) (defBody s_source_value) (defScope s_source_value) .none kV_source_value dc_source_value pm_source_value an_source_value cd_source_value ct_source_value), sl_source_value⟩) (c_source_value : PySem.W.codeIn K cd_source_value "source_value" = true) (k_source_value : PySem.W.keepIn K (.ref a_source_value) = true)
    (p_performed : PySem.W.nsIn K mainGlobals "performed" = some (some (.ref a_performed))) (l_performed : K.lookup a_performed = some ⟨oc_performed, od_performed, .func (PySem.W.fnOf "performed" "performed" (defArgs s_performed) (defBody s_performed) (defScope s_performed) .none kV_performed dc_performed pm_performed an_performed cd_performed ct_performed), sl_performed⟩) (c_performed : PySem.W.codeIn K cd_performed "performed" = true) (k_performed : PySem.W.keepIn K (.ref a_performed) = true)
    (p_traced : PySem.W.nsIn K mainGlobals "traced" = some (some (.ref a_traced))) (l_traced : K.lookup a_traced = some ⟨oc_traced, od_traced, .func (PySem.W.fnOf "traced" "traced" (defArgs s_traced) (defBody s_traced) (defScope s_traced) .none kV_traced dc_traced pm_traced an_traced cd_traced ct_traced), sl_traced⟩) (c_traced : PySem.W.codeIn K cd_traced "traced" = true) (k_traced : PySem.W.keepIn K (.ref a_traced) = true)
    (p__law_result : PySem.W.nsIn K mainGlobals "_law_result" = some (some (.ref a__law_result))) (l__law_result : K.lookup a__law_result = some ⟨oc__law_result, od__law_result, .func (PySem.W.fnOf "_law_result" "_law_result" (defArgs s__law_result) (defBody s__law_result) (defScope s__law_result) .none kV__law_result dc__law_result pm__law_result an__law_result cd__law_result ct__law_result), sl__law_result⟩) (c__law_result : PySem.W.codeIn K cd__law_result "_law_result" = true) (k__law_result : PySem.W.keepIn K (.ref a__law_result) = true)
    (p__law_value : PySem.W.nsIn K mainGlobals "_law_value" = some (some (.ref a__law_value))) (l__law_value : K.lookup a__law_value = some ⟨oc__law_value, od__law_value, .func (PySem.W.fnOf "_law_value" "_law_value" (defArgs s__law_value) (defBody s__law_value) (defScope s__law_value) .none kV__law_value dc__law_value pm__law_value an__law_value cd__law_value ct__law_value), sl__law_value⟩) (c__law_value : PySem.W.codeIn K cd__law_value "_law_value" = true) (k__law_value : PySem.W.keepIn K (.ref a__law_value) = true)
    (p__law_after : PySem.W.nsIn K mainGlobals "_law_after" = some (some (.ref a__law_after))) (l__law_after : K.lookup a__law_after = some ⟨oc__law_after, od__law_after, .func (PySem.W.fnOf "_law_after" "_law_after" (defArgs s__law_after) (defBody s__law_after) (defScope s__law_after) .none kV__law_after dc__law_after pm__law_after an__law_after cd__law_after ct__law_after), sl__law_after⟩) (c__law_after : PySem.W.codeIn K cd__law_after "_law_after" = true) (k__law_after : PySem.W.keepIn K (.ref a__law_after) = true)
    (p_law : PySem.W.nsIn K mainGlobals "law" = some (some (.ref a_law))) (l_law : K.lookup a_law = some ⟨oc_law, od_law, .func (PySem.W.fnOf "law" "law" (defArgs s_law) (defBody s_law) (defScope s_law) .none kV_law dc_law pm_law an_law cd_law ct_law), sl_law⟩) (c_law : PySem.W.codeIn K cd_law "law" = true) (k_law : PySem.W.keepIn K (.ref a_law) = true)
    (z_int : PySem.W.nsIn K mainGlobals "int" = some none)
    (z_len : PySem.W.nsIn K mainGlobals "len" = some none)
    (z_list : PySem.W.nsIn K mainGlobals "list" = some none)
    (z_max : PySem.W.nsIn K mainGlobals "max" = some none)
    (z_min : PySem.W.nsIn K mainGlobals "min" = some none)
    (z_range : PySem.W.nsIn K mainGlobals "range" = some none)
    (z_str : PySem.W.nsIn K mainGlobals "str" = some none)
    (z_tuple : PySem.W.nsIn K mainGlobals "tuple" = some none)
    {t_REGISTERS : Tok} (q_REGISTERS : PySem.W.nsIn K mainGlobals "REGISTERS" = some (some (.int 8 t_REGISTERS))) :
    ∃ fd : FuncData, (∀ (s : Shared) (v : Value), BindsTo s fd ⟨[v], []⟩ [("_law_script", v)]) ∧ ∀ base : Heap, K.In base → base.Ns mainGlobals mg → FnOk l.prog w K mg base (L2.CX l.prog w) 4 fa fd ["_law_script"] (spTrue K) := by
  have e := hfa.symm.trans (PySem.W.mg_of X G p_law)
  cases e
  have T : Txt K mg a__law_cell a__law_draw a__law_operand a__law_program a__law_random a__law_inputs a_result_of a_source_value a_performed a_traced a__law_result a__law_value a__law_after fa := ⟨PySem.W.mg_of X G p__law_cell, k__law_cell, PySem.W.mg_of X G p__law_draw, k__law_draw, PySem.W.mg_of X G p__law_operand, k__law_operand, PySem.W.mg_of X G p__law_program, k__law_program, PySem.W.mg_of X G p__law_random, k__law_random, PySem.W.mg_of X G p__law_inputs, k__law_inputs, PySem.W.mg_of X G p_result_of, k_result_of, PySem.W.mg_of X G p_source_value, k_source_value, PySem.W.mg_of X G p_performed, k_performed, PySem.W.mg_of X G p_traced, k_traced, PySem.W.mg_of X G p__law_result, k__law_result, PySem.W.mg_of X G p__law_value, k__law_value, PySem.W.mg_of X G p__law_after, k__law_after, PySem.W.mg_of X G p_law, k_law, PySem.W.mg_none_of X G z_int, PySem.W.mg_none_of X G z_len, PySem.W.mg_none_of X G z_list, PySem.W.mg_none_of X G z_max, PySem.W.mg_none_of X G z_min, PySem.W.mg_none_of X G z_range, PySem.W.mg_none_of X G z_str, PySem.W.mg_none_of X G z_tuple, ⟨_, PySem.W.mg_of X G q_REGISTERS⟩⟩
  have f__law_cell := fun_mk (st := s__law_cell) l__law_cell c__law_cell k__law_cell
  have b__law_cell := f__law_cell.binds (ps := ["_law_script", "_law_k"]) fun _ _ _ _ _ _ us hl => match us, hl with | [_, _], _ => rfl
  have f__law_draw := fun_mk (st := s__law_draw) l__law_draw c__law_draw k__law_draw
  have b__law_draw := f__law_draw.binds (ps := ["_law_script", "_law_k", "_law_sizes"]) fun _ _ _ _ _ _ us hl => match us, hl with | [_, _, _], _ => rfl
  have f__law_operand := fun_mk (st := s__law_operand) l__law_operand c__law_operand k__law_operand
  have b__law_operand := f__law_operand.binds (ps := ["_law_kind", "_law_number", "_law_modulus", "_law_inputs_here", "_law_many"]) fun _ _ _ _ _ _ us hl => match us, hl with | [_, _, _, _, _], _ => rfl
  have f__law_program := fun_mk (st := s__law_program) l__law_program c__law_program k__law_program
  have b__law_program := f__law_program.binds (ps := ["_law_script", "_law_k", "_law_most"]) fun _ _ _ _ _ _ us hl => match us, hl with | [_, _, _], _ => rfl
  have f__law_random := fun_mk (st := s__law_random) l__law_random c__law_random k__law_random
  have b__law_random := f__law_random.binds (ps := ["_law_script", "_law_k", "_law_program_here", "_law_most"]) fun _ _ _ _ _ _ us hl => match us, hl with | [_, _, _, _], _ => rfl
  have f__law_inputs := fun_mk (st := s__law_inputs) l__law_inputs c__law_inputs k__law_inputs
  have b__law_inputs := f__law_inputs.binds (ps := ["_law_script", "_law_k", "_law_program_here"]) fun _ _ _ _ _ _ us hl => match us, hl with | [_, _, _], _ => rfl
  have f_result_of := fun_mk (st := s_result_of) l_result_of c_result_of k_result_of
  have b_result_of := f_result_of.binds (ps := ["operation", "left", "right"]) fun _ _ _ _ _ _ us hl => match us, hl with | [_, _, _], _ => rfl
  have f_source_value := fun_mk (st := s_source_value) l_source_value c_source_value k_source_value
  have b_source_value := f_source_value.binds (ps := ["source", "inputs", "registers"]) fun _ _ _ _ _ _ us hl => match us, hl with | [_, _, _], _ => rfl
  have f_performed := fun_mk (st := s_performed) l_performed c_performed k_performed
  have b_performed := f_performed.binds (ps := ["program", "instruction", "inputs", "registers"]) fun _ _ _ _ _ _ us hl => match us, hl with | [_, _, _, _], _ => rfl
  have f_traced := fun_mk (st := s_traced) l_traced c_traced k_traced
  have b_traced := f_traced.binds (ps := ["program", "code", "inputs"]) fun _ _ _ _ _ _ us hl => match us, hl with | [_, _, _], _ => rfl
  have f__law_result := fun_mk (st := s__law_result) l__law_result c__law_result k__law_result
  have b__law_result := f__law_result.binds (ps := ["_law_operation", "_law_left", "_law_right", "_law_modulus"]) fun _ _ _ _ _ _ us hl => match us, hl with | [_, _, _, _], _ => rfl
  have f__law_value := fun_mk (st := s__law_value) l__law_value c__law_value k__law_value
  have b__law_value := f__law_value.binds (ps := ["_law_word", "_law_inputs_here", "_law_others"]) fun _ _ _ _ _ _ us hl => match us, hl with | [_, _, _], _ => rfl
  have f__law_after := fun_mk (st := s__law_after) l__law_after c__law_after k__law_after
  have b__law_after := f__law_after.binds (ps := ["_law_program_here", "_law_code", "_law_inputs_here", "_law_registers"]) fun _ _ _ _ _ _ us hl => match us, hl with | [_, _, _, _], _ => rfl
  have f_law := fun_mk (st := s_law) l_law c_law k_law
  refine ⟨PySem.W.fnOf "law" "law" (defArgs s_law) (defBody s_law) (defScope s_law) .none kV_law dc_law pm_law an_law cd_law ct_law, fun s v => .of_eq rfl, fun base _ _ => ?_⟩
  have G__law_cell := ok__law_cell (P := l.prog) (w := w) (base := base) (ca := (⟨fun _ => 0, []⟩ : CA)) T  f__law_cell
  have G__law_draw := ok__law_draw (P := l.prog) (w := w) (base := base) (ca := (⟨fun _ => 0, []⟩ : CA)) T G__law_cell b__law_cell f__law_draw
  have G__law_operand := ok__law_operand (P := l.prog) (w := w) (base := base) (ca := (⟨fun _ => 0, []⟩ : CA)) T  f__law_operand
  have G__law_program := ok__law_program (P := l.prog) (w := w) (base := base) (ca := (⟨fun _ => 0, []⟩ : CA)) T G__law_draw b__law_draw G__law_operand b__law_operand f__law_program
  have G__law_random := ok__law_random (P := l.prog) (w := w) (base := base) (ca := (⟨fun _ => 0, []⟩ : CA)) T G__law_draw b__law_draw f__law_random
  have G__law_inputs := ok__law_inputs (P := l.prog) (w := w) (base := base) (ca := (⟨fun _ => 0, []⟩ : CA)) T G__law_draw b__law_draw f__law_inputs
  have G_result_of := ok_result_of (P := l.prog) (w := w) (base := base) (ca := (⟨fun _ => 0, []⟩ : CA)) T  f_result_of
  have G_source_value := ok_source_value (P := l.prog) (w := w) (base := base) (ca := (⟨fun _ => 0, []⟩ : CA)) T  f_source_value
  have G_performed := ok_performed (P := l.prog) (w := w) (base := base) (ca := (⟨fun _ => 0, []⟩ : CA)) T G_result_of b_result_of G_source_value b_source_value f_performed
  have G_traced := ok_traced (P := l.prog) (w := w) (base := base) (ca := (⟨fun _ => 0, []⟩ : CA)) T G_performed b_performed f_traced
  have G_tracedR := ok_tracedR (P := l.prog) (w := w) (base := base) (ca := (⟨fun _ => 0, []⟩ : CA)) T G_performed b_performed f_traced
  have G__law_result := ok__law_result (P := l.prog) (w := w) (base := base) (ca := (⟨fun _ => 0, []⟩ : CA)) T  f__law_result
  have G__law_value := ok__law_value (P := l.prog) (w := w) (base := base) (ca := (⟨fun _ => 0, []⟩ : CA)) T  f__law_value
  have G__law_after := ok__law_after (P := l.prog) (w := w) (base := base) (ca := (⟨fun _ => 0, []⟩ : CA)) T G__law_result b__law_result G__law_value b__law_value f__law_after
  have G_law := ok_law (P := l.prog) (w := w) (base := base) (ca := (⟨fun _ => 0, []⟩ : CA)) T G_traced b_traced G_tracedR G__law_program b__law_program G__law_random b__law_random G__law_inputs b__law_inputs G__law_after b__law_after f_law
  exact G_law.imp fun vs H Q E h => law_true rfl law_holds vs H Q E h
end My
open PySem PySem.W PyProof.Rows
set_option maxHeartbeats 0 in
theorem PySem.Challenge.cw_tidyback_k48_contents_step_by_step_holds : PySem.Challenge.rw_tidyback_k48_contents_step_by_step.Holds := by
  w_on; o_law; k_head; (case hw => w_witness2)
  k_fill
  refine L2.walk_of (l := PySem.Challenge.rw_tidyback_k48_contents_step_by_step) (n := 63) (k := 4) (x := "_law_script") (CX := fun w => L2.CX PySem.Challenge.rw_tidyback_k48_contents_step_by_step.prog w) (sp := fun w => VL.spTrue _) rfl (by decide) rfl ⟨rfl, by decide, by decide⟩ (fun w h Y => PySem.W.kIn_of Y) ?F (fun _ _ a ns hl _ hS => ⟨a, ns, rfl, hS, hl, fun _ => rfl⟩) (fun _ _ _ _ _ h => by
    obtain ⟨_, _, _, _, _, _, _, _, _, _, _, _, z⟩ := h
    exact z)
  case F =>
    intro w mg fa h KX G hmg
    refine' My.all_mk KX G hmg ?p__law_cell ?l__law_cell ?c__law_cell ?k__law_cell ?p__law_draw ?l__law_draw ?c__law_draw ?k__law_draw ?p__law_operand ?l__law_operand ?c__law_operand ?k__law_operand ?p__law_program ?l__law_program ?c__law_program ?k__law_program ?p__law_random ?l__law_random ?c__law_random ?k__law_random ?p__law_inputs ?l__law_inputs ?c__law_inputs ?k__law_inputs ?p_result_of ?l_result_of ?c_result_of ?k_result_of ?p_source_value ?l_source_value ?c_source_value ?k_source_value ?p_performed ?l_performed ?c_performed ?k_performed ?p_traced ?l_traced ?c_traced ?k_traced ?p__law_result ?l__law_result ?c__law_result ?k__law_result ?p__law_value ?l__law_value ?c__law_value ?k__law_value ?p__law_after ?l__law_after ?c__law_after ?k__law_after ?p_law ?l_law ?c_law ?k_law ?z_int ?z_len ?z_list ?z_max ?z_min ?z_range ?z_str ?z_tuple ?q_REGISTERS
    (case p__law_cell => k_is); (case l__law_cell => k_is); (case c__law_cell => k_is); (case k__law_cell => k_is); (case p__law_draw => k_is); (case l__law_draw => k_is); (case c__law_draw => k_is); (case k__law_draw => k_is); (case p__law_operand => k_is); (case l__law_operand => k_is); (case c__law_operand => k_is); (case k__law_operand => k_is); (case p__law_program => k_is); (case l__law_program => k_is); (case c__law_program => k_is); (case k__law_program => k_is); (case p__law_random => k_is); (case l__law_random => k_is); (case c__law_random => k_is); (case k__law_random => k_is); (case p__law_inputs => k_is); (case l__law_inputs => k_is); (case c__law_inputs => k_is); (case k__law_inputs => k_is); (case p_result_of => k_is); (case l_result_of => k_is); (case c_result_of => k_is); (case k_result_of => k_is); (case p_source_value => k_is); (case l_source_value => k_is); (case c_source_value => k_is); (case k_source_value => k_is); (case p_performed => k_is); (case l_performed => k_is); (case c_performed => k_is); (case k_performed => k_is); (case p_traced => k_is); (case l_traced => k_is); (case c_traced => k_is); (case k_traced => k_is); (case p__law_result => k_is); (case l__law_result => k_is); (case c__law_result => k_is); (case k__law_result => k_is); (case p__law_value => k_is); (case l__law_value => k_is); (case c__law_value => k_is); (case k__law_value => k_is); (case p__law_after => k_is); (case l__law_after => k_is); (case c__law_after => k_is); (case k__law_after => k_is); (case p_law => k_is); (case l_law => k_is); (case c_law => k_is); (case k_law => k_is); (case z_int => k_is); (case z_len => k_is); (case z_list => k_is); (case z_max => k_is); (case z_min => k_is); (case z_range => k_is); (case z_str => k_is); (case z_tuple => k_is); (case q_REGISTERS => k_is)
#print axioms PySem.Challenge.cw_tidyback_k48_contents_step_by_step_holds
